/- cR of this claim: W28, W30, W31, W32, W33, W34, W35, W36, W37, W38, W39, W40, W48, W50, W51. -/
import Derived.Test.YtnmjbolollcokaaGreatDoorRcV2
import Derived.MapKept
import Derived.Scope
import Derived.ChangeKeysEq
import Derived.Lib.Bytealg
import Derived.Maps.Range
import Derived.Laws.IdiomRangeMap
import Derived.Test.YtnmjbolollcokaaGreatDoorRcV1
import Derived.Laws.BytesString
import Derived.Below
set_option linter.all false
namespace Go.Proofs.YtnmjbolollcokaaGreatDoor
open Go

variable{β α:Type}{b:Nat}{c:Code}{d:Nat}{e:Exit}{k:Nat}{r:Rp α}{x:Operand}{y:β}
theorem og3 [Inhabited α]{c b:Bool}{x:Option α}{k:α→Option β}{d:Option β}{r:β}(h:c=true→(if b=true then x.bind k else d)=some r): ∃y,((c&&b)=true→x=some y∧k y=some r)∧(c=true→b=false→d=some r):=by
 cases c with
 |false=>exact⟨default,fun e=>(by cases e),fun e=>(by cases e)⟩
 |true=>
  obtain⟨y,h1,h2⟩:=og (h rfl)
  exact⟨y,fun e=>h1 e,fun _ e=>h2 e⟩
def qw{κ β:Type} [DecidableEq κ]:List (κ×β)→κ→Option β
 |[],_=>none
 |p::m,k=>if p.1=k then some p.2 else qw m k
def dM{κ β:Type} [DecidableEq κ]:List (κ×β)→κ→β→List (κ×β)
 |[],k,v=>[(k,v)]
 |p::m,k,v=>if p.1=k then(k,v)::m else p::dM m k v
def EC{κ:Type}(P:Program)(kt:TypeId)(kv:κ→Value):Prop:= ∃d,P.underlying kt=some d∧(∀a,MapKept.IsKey d (kv a))∧ ∀a b,kv a=kv b→a=b
def Vz(k:IntKind)(n:Int):Value:= .int k n
variable{P:Program}{a:Act}{kt:TypeId}
theorem iS{k:IntKind}(h:P.underlying kt=some (.int k)):EC P kt (Vz k):=⟨_,h,fun _=>rfl,fun a b e=>by injection e⟩
structure MV(β:Type) where
 p:World→SH→β→Option Nat×Nat→Value→Prop
 here: ∀{w S y o v},p w S y o v→ ∀j,o.1=some j→j<w.heap.size
 kept: ∀{C w w' S S' y o v},p w S y o v→fN C w S w' S' →(∀j,o.1=some j→ ¬C j)→p w' S' y o v
def xb{β:Type}(ty:β→Ty):MV β where
 p:=fun _ S y o v=>o.1=none∧(ty y).p S v
 here:=fun h j hj=>by rw [h.1]at hj;cases hj
 kept:=fun h k _=>⟨h.1,(ty _).mono k.keep h.2⟩
variable{S S' :SH}{V:MV β}{f:FuncId}{κ:Type}{kv:κ→Value}{m:List (κ×β)}{o:Oper}{os:List (Option Nat×Nat)}{q:Rp β}{v:Value}{w w' :World}{xs:List α}
section
variable [DecidableEq κ]{d:TypeDesc}{k:κ}
def v6(V:MV β)(kv:κ→Value)(w:World)(S:SH)(h:Option κ):List MapEntry→List (Option Nat×Nat)→List (κ×β)→Prop
 |[],[],[]=>True
 |e::es,o::os,q::m=>e.key=kv q.1∧(if h=some q.1 then o.1=none else V.p w S q.2 o e.val)∧(∀o' ∈os,∀j,o.1=some j→o'.1≠some j)∧(∀p∈m,p.1≠q.1)∧v6 V kv w S h es os m
 |_,_,_=>False
theorem Er{h:Option κ}: ∀{es:List MapEntry} {os:List (Option Nat×Nat)} {m:List (κ×β)},v6 V kv w S h es os m→ ∀o∈os,∀j,o.1=some j→j<w.heap.size
 |[],[],[],_,o,ho,_,_=>by cases ho
 |e::es,o::os,q::m,⟨_,h2,_,_,h5⟩,o',ho,j,hj=>by
  rcases gz.1 ho with rfl|ho
  ·split at h2
   ·rw [h2]at hj;cases hj
   ·exact V.here h2 j hj
  ·exact Er h5 o' ho j hj
theorem y9{C:Nat→Prop}(k:fN C w S w' S'){h:Option κ}: ∀{es:List MapEntry} {os:List (Option Nat×Nat)} {m:List (κ×β)},v6 V kv w S h es os m→(∀o∈os,∀j,o.1=some j→ ¬C j)→v6 V kv w' S' h es os m
 |[],[],[],_,_=>trivial
 |e::es,o::os,q::m,⟨h1,h2,h3,h4,h5⟩,hC=>⟨h1,by
  split
  ·rename_i hh;rw [bm hh]at h2;exact h2
  ·rename_i hh;rw [bg hh]at h2;exact V.kept h2 k (hC o (nm ..)),h3,h4,y9 k h5 fun o' ho=>hC o' (nE _ ho)⟩
theorem AS{h:Option κ}: ∀{es:List MapEntry} {os:List (Option Nat×Nat)} {m:List (κ×β)},v6 V kv w S h es os m→(∀p∈m,h≠some p.1)→v6 V kv w S none es os m
 |[],[],[],_,_=>trivial
 |e::es,o::os,q::m,⟨h1,h2,h3,h4,h5⟩,hk=>⟨h1,by
  rw [bg (hk q (nm ..))]at h2
  rw [bg (by simp)];exact h2,h3,h4,AS h5 fun p hp=>hk p (nE _ hp)⟩
theorem qI(hd: ∀a,MapKept.IsKey d (kv a))(hi: ∀a b,kv a=kv b→a=b)(a b:κ):Instr.sameNow d (kv a) (kv b)=some (decide (a=b)):=by
 obtain⟨r,h1,h2⟩:=MapKept.sameNow_of_keys (hd a) (hd b)
 rw [h1]
 by_cases h:a=b
 ·subst h;rw [h2.2 rfl];simp
 ·rw [my h]
  cases r with
  |false=>rfl
  |true=>exact absurd (hi _ _ (h2.1 rfl)) h
theorem rE(hd: ∀a,MapKept.IsKey d (kv a))(hi: ∀a b,kv a=kv b→a=b): ∀{es:List MapEntry} {os:List (Option Nat×Nat)} {m:List (κ×β)} (i:Nat),v6 V kv w S none es os m→
  ∃os',(∀x∈os',x∈os∨x.1=none)∧v6 V kv w S (some k) es os' m∧
   ((qw m k=none∧Instr.findNow d (kv k) es i=some none)∨ ∃(y:β) (o:Option Nat×Nat) (e:MapEntry) (j:Nat),qw m k=some y∧o∈os∧V.p w S y o e.val∧Instr.findNow d (kv k) es i=some (some (j,e.val))∧ ∀x∈os',∀q,o.1=some q→x.1≠some q)
 |[],[],[],i,_=>⟨[],fun x hx=>(by cases hx),trivial,.inl ⟨rfl,rfl⟩⟩
 |e::es,o::os,q::m,i,⟨h1,h2,h3,h4,h5⟩=>by
  rw [bg (by simp)]at h2
  by_cases hk:q.1=k
  ·refine⟨(none,0)::os,fun x hx=>?_,⟨h1,by rw [bm (by rw [hk])],fun _ _ _ hj=>(by cases hj),h4,?_⟩,.inr ⟨q.2,o,e,i,by unfold qw;rw [bm hk],nm ..,h2,?_,fun x hx j hj=>?_⟩⟩
   ·rcases gz.1 hx with rfl|hx
    ·exact .inr rfl
    ·exact .inl (nE _ hx)
   ·have: ∀{es:List MapEntry} {os:List (Option Nat×Nat)} {m:List (κ×β)},v6 V kv w S none es os m→(∀p∈m,p.1≠k)→v6 V kv w S (some k) es os m:=by
     intro es
     induction es with
     |nil=>intro os m h _;cases os<;>cases m<;>first|trivial|exact h.elim
     |cons e es ih=>
      intro os m h hm
      cases os with
      |nil=>cases m<;>exact h.elim
      |cons o os=>
       cases m with
       |nil=>exact h.elim
       |cons q m=>
        obtain⟨g1,g2,g3,g4,g5⟩:=h
        rw [bg (by simp)]at g2
        exact⟨g1,by rw [bg (fun e=>hm q (nm ..) (nV e).symm)];exact g2,g3,g4,ih g5 fun p hp=>hm p (nE _ hp)⟩
    exact this h5 (fun p hp=>by rw [←hk];exact h4 p hp)
   ·unfold Instr.findNow
    rw [h1,qI hd hi,hk,nU rfl]
   ·rcases gz.1 hx with rfl|hx
    ·exact fun e=>by cases e
    ·exact h3 x hx j hj
  ·obtain⟨os',g1,g2,g3⟩:=rE hd hi (i+1) h5
   refine⟨o::os',fun x hx=>?_,⟨h1,by rw [bg (fun e=>hk (nV e).symm)];exact h2,fun o' ho' j hj=>?_,h4,g2⟩,?_⟩
   ·rcases gz.1 hx with rfl|hx
    ·exact .inl (nm ..)
    ·exact(g1 x hx).imp (nE _) id
   ·rcases g1 o' ho' with h|h
    ·exact h3 o' h j hj
    ·rw [h];exact fun e=>by cases e
   ·have hf:Instr.findNow d (kv k) (e::es) i=Instr.findNow d (kv k) es (i+1):=by
     conv=>lhs;unfold Instr.findNow
     rw [h1,qI hd hi,my (fun e=>hk e.symm)]
    have hm:qw (q::m) k=qw m k:=by conv=>lhs;unfold qw;rw [bg hk]
    rw [hf,hm]
    refine g3.imp id fun⟨y,o1,e1,j,f1,f2,f3,f4,f5⟩=>⟨y,o1,e1,j,f1,nE _ f2,f3,f4,fun x hx q hq=>?_⟩
    rcases gz.1 hx with rfl|hx
    ·exact fun e=>h3 o1 f2 q e hq
    ·exact f5 x hx q hq
theorem He(x:α)(xs:List α)(j:Nat)(f:α→α):(x::xs).modify (j+1) f=x::xs.modify j f:=by simp [List.modify_succ_cons]
theorem Es(hd: ∀a,MapKept.IsKey d (kv a))(hi: ∀a b,kv a=kv b→a=b){y:β}{o:Option Nat×Nat}{v:Value}{born:Nat}(hv:V.p w S y o v): ∀{es:List MapEntry} {os:List (Option Nat×Nat)} {m:List (κ×β)} (i:Nat),v6 V kv w S (some k) es os m→(∀o' ∈os,∀j,o.1=some j→o'.1≠some j)→
    ∃os',(∀x∈os',x∈os∨x=o)∧
      ((∃(j:Nat) (e:MapEntry),Instr.findNow d (kv k) es i=some (some (i+j,e.val))∧es[j]? =some e∧e.key=kv k∧v6 V kv w S none (es.modify j fun e=>{e with key:=kv k,val:=v}) os' (dM m k y))∨
        (Instr.findNow d (kv k) es i=some none∧v6 V kv w S none (es++[⟨kv k,v,born⟩]) os' (dM m k y)))
  |[],[],[],i,_,_=>⟨[o],fun x hx=> .inr (t7.1 hx),.inr ⟨rfl,⟨rfl,by rw [bg (by simp)];exact hv,fun _ h=>(by cases h),fun _ h=>(by cases h),trivial⟩⟩⟩
  |e::es,o1::os,q::m,i,⟨h1,h2,h3,h4,h5⟩,ha=>by
    by_cases hk:q.1=k
    · refine⟨o::os,fun x hx=>?_,.inl ⟨0,e,?_,rfl,by rw [h1,hk],?_⟩⟩
      · rcases gz.1 hx with rfl|hx
        · exact .inr rfl
        · exact .inl (nE _ hx)
      · unfold Instr.findNow
        rw [h1,qI hd hi,hk,nU rfl]
        rfl
      · unfold dM
        rw [bm hk,List.modify_zero_cons]
        exact⟨rfl,by rw [bg (by simp)];exact hv,fun o' ho' =>ha o' (nE _ ho'),fun p hp=>by rw [←hk];exact h4 p hp,
          AS h5 fun p hp e=>h4 p hp (by rw [hk];exact(nV e).symm)⟩
    · obtain⟨os',g1,g2⟩:=Es hd hi (born:=born) hv (i+1) h5 fun o' ho' =>ha o' (nE _ ho')
      rw [bg (fun e=>hk (nV e).symm)]at h2
      have hf:Instr.findNow d (kv k) (e::es) i=Instr.findNow d (kv k) es (i+1):=by
        conv=>lhs;unfold Instr.findNow
        rw [h1,qI hd hi,my (fun e=>hk e.symm)]
      have hm:dM (q::m) k y=q::dM m k y:=by conv=>lhs;unfold dM;rw [bg hk]
      have hap: ∀o' ∈os',∀j,o1.1=some j→o'.1≠some j:=fun o' ho' j hj=>by
        rcases g1 o' ho' with h|rfl
        · exact h3 o' h j hj
        · exact fun e=>ha o1 (nm ..) j e hj
      have hne: ∀p∈dM m k y,p.1≠q.1:=by
        have: ∀m:List (κ×β),(∀p∈m,p.1≠q.1)→ ∀p∈dM m k y,p.1≠q.1:=by
          intro m
          induction m with
          |nil=>intro _ p hp;rw [t7.1 hp];exact fun e=>hk e.symm
          |cons p0 m ih=>
            intro hm p hp
            unfold dM at hp
            split at hp
            · rcases gz.1 hp with rfl|hp
              · exact fun e=>hk e.symm
              · exact hm p (nE _ hp)
            · rcases gz.1 hp with rfl|hp
              · exact hm _ (nm ..)
              · exact ih (fun p hp=>hm p (nE _ hp)) p hp
        exact this m h4
      rw [hf,hm]
      refine⟨o1::os',fun x hx=>?_,g2.imp (fun⟨j,e',f1,f2,f3,f4⟩=>⟨j+1,e',by rw [f1];congr 3;omega,by simpa using f2,f3,?_⟩) fun⟨f1,f2⟩=>⟨f1,?_⟩⟩
      · rcases gz.1 hx with rfl|hx
        · exact .inl (nm ..)
        · exact(g1 x hx).imp (nE _) id
      · rw [He]
        exact⟨h1,by rw [bg (by simp)];exact h2,hap,hne,f4⟩
      · exact⟨h1,by rw [bg (by simp)];exact h2,hap,hne,f2⟩
theorem Ep{h:Option κ}: ∀{es:List MapEntry} {os:List (Option Nat×Nat)} {m:List (κ×β)},v6 V kv w S h es os m→ ∀x∈es,∃q∈m,x.key=kv q.1
 |[],[],[],_,x,hx=>by cases hx
 |e::es,o::os,q::m,⟨h1,_,_,_,h5⟩,x,hx=>by
  rcases gz.1 hx with rfl|hx
  ·exact⟨q,nm ..,h1⟩
  ·obtain⟨q',g1,g2⟩:=Ep h5 x hx
   exact⟨q',nE _ g1,g2⟩
theorem LJ(hd: ∀a,MapKept.IsKey d (kv a)){h:Option κ}{es:List MapEntry}{i:Nat}(h4:v6 V kv w S h es os m)(g1:Instr.findNow d (kv k) es i=some none){x:MapEntry}(hx:x∈es):x.key≠kv k:=by
 rcases MapKept.findNow_spec (hd k) es i (fun y hy=>by obtain⟨q,_,e⟩:=Ep h4 y hy;rw [e];exact hd _)with⟨_,h2⟩|⟨j,e,h2,_⟩
 ·exact h2 x hx
 ·rw [g1]at h2;cases h2
def mS(V:MV β)(kv:κ→Value)(b:Nat)(h:Option κ)(os:List (Option Nat×Nat))(m:List (κ×β)):OE where
 fp:=fun j=>j=b∨ ∃o∈os,o.1=some j
 p:=fun w S=>S b=none∧(∀o∈os,o.1≠some b)∧ ∃es clock,w.heap[b]? =some (.map es clock)∧v6 V kv w S h es.toList os m∧MapKept.Stamped es clock
 here:=by
  intro w S ⟨_,_,es,clock,h3,h4,_⟩ j hj
  rcases hj with rfl|⟨o,ho,hj⟩
  ·exact(sU.1 h3).1
  ·exact Er h4 o ho j hj
 kept:=by
  intro C w w' S S' ⟨h1,h2,es,clock,h3,h4,hst⟩ k hC
  have hlt:=(sU.1 h3).1
  exact⟨by rw [k.old b hlt (hC b (.inl rfl))];exact h1,h2,es,clock,by rw [k.heap b hlt (hC b (.inl rfl))];exact h3,y9 k h4 (fun o ho j hj=>hC j (.inr ⟨o,ho,hj⟩)),hst⟩
def oW(b:Nat):Value:= .map (some b)
end
variable{E:En}{G:kW}{N:Nat}{O:List OE}{X:Type}{Q:Exit→Act→World→Prop}{T:TypeId}{after:Array Edge}{dst:Option Tmp}{et:TypeId}{fp:Nat→Prop}{g:Option (Nat×Bool)}{n:Nat}{ops:Array Oper}{pos:String}{rest:List Oper}{t:TypeId}{u:Value}{x1 x2 x3 x4:OE}{z:List Value}{γ:β→Ty}
section
variable [DecidableEq κ]{k:κ}{i v:Operand}{dst:Option Nat}{ty:TypeId}
def H1(N:Fr)(G:kW)(x:Operand)(u:Value):Prop:= ∀S a,cR N S a G→a.eval x=u
theorem uE{N:Fr}{q:IntKind}{n:Int}(h:aK N G x (tD (rI q) n)):H1 N G x (Vz q n):=fun S a hf=>dO.1 (h S a hf)
def ZV(P:Program)(T:TypeId)(z:Value):Prop:=(P.info? T).bind (·.zero)=some z
theorem ZV.run{z:Value}(h:ZV P T z)(w:World):(zeroValue T).run P w= .ok z w:=by
 unfold ZV at h
 cases hi:P.info? T with
 |none=>rw [hi]at h;cases h
 |some i=>
  rw [hi]at h
  have h' :i.zero=some z:=h
  simp [zeroValue,typeInfo,hi,h']
theorem xT(V:MV β)(kv:κ→Value)(hd:Nat.blt d E.N.n=true)(k: ∀b,RG E ops Q rest (mS V kv b none [] []::O) ((d,tV (oW b))::G)):
  RG E ops Q (⟨some d,.makeMap t none,ty,pos,after,none⟩::rest) O G:= .of rfl fun a w S st=>by
 obtain⟨he,hs',hno⟩:=eJ (w:=w) (.map #[] 0) st.sat
 have hrun:(execOp a.eval ⟨some d,.makeMap t none,ty,pos,after,none⟩).run E.P w= .ok (.value (oW w.heap.size)) (w.alloc (.map #[] 0)):=by
  simp [execOp,Instr.makeMap,oW]
 refine⟨fun c h=>(by cases h),?_⟩
 rw [hrun]
 exact k w.heap.size _ _ S ⟨st.ext.step0 he,hs',oD st.own he ⟨hno,fun _ h=>(by cases h),#[],0,BE w _,trivial,MapKept.stamped_empty 0⟩ (fun b hb=>by
  rcases hb with rfl|⟨_,h,_⟩
  ·exact dN _
  ·cases h) st.base_le,st.facts.put hd rfl⟩
theorem pF{kk:Value}{es:Array MapEntry}{clock:Nat}{q:TypeDesc}{z:Value}{u:Option (Nat×Value)}(hm:P.underlying t=some (.map kt et))(hq:P.underlying kt=some q)(hk:MapKept.IsKey q kk)(hb:w.heap[b]? =some (.map es clock))(hz:ZV P et z)(hf:Instr.findNow q kk es.toList 0=some u)(c:Bool):(Instr.lookup t (oW b) kk c).run P w= .ok (if c then .tuple #[(u.map (·.2)).getD z,.bool u.isSome]else(u.map (·.2)).getD z) w:=by
 cases u with
 |none=>simp [Instr.lookup,oW,iN hm,Gg hb,JK hq hk,MapKept.run_findKey hq hf,hz.run,Result.andThen]
 |some r=>simp [Instr.lookup,oW,iN hm,Gg hb,JK hq hk,MapKept.run_findKey hq hf,Result.andThen]
theorem IZ{z:β}{zv:Value}(hm:E.P.underlying t=some (.map kt et))(hk:EC E.P kt kv)(hz:ZV E.P et zv)(hzt: ∀S,(γ z).p S zv)(hmem:mS (xb γ) kv b none os m∈O)(hx:aK E.N G x (tV (oW b)))(hi:H1 E.N G i (kv k)):
  bW E O G ⟨dst,.lookup t x i false,ty,pos,after,g⟩ (γ ((qw m k).getD z)):= .of_pure fun a w S hs ho hf=>by
 obtain⟨⟨_,_,es,clock,h3,h4,_⟩,_⟩:=cI.mem ho _ hmem
 obtain⟨q,hq,hd,hinj⟩:=hk
 have h1:a.eval x=oW b:=hx S a hf
 have h2:a.eval i=kv k:=hi S a hf
 obtain⟨_,_,_,h5⟩:=rE hd hinj (k:=k) 0 h4
 rcases h5 with⟨g1,g2⟩|⟨y,o,e,j,g1,g2,g3,g4,g5⟩
 ·refine⟨zv,by simp [execOp,h1,h2,pF hm hq (hd k) h3 hz g2],by rw [g1];exact hzt S⟩
 ·refine⟨e.val,by simp [execOp,h1,h2,pF hm hq (hd k) h3 hz g4],by rw [g1];exact g3.2⟩
theorem G7{z:β}{zv:Value}(hm:E.P.underlying t=some (.map kt et))(hk:EC E.P kt kv)(hz:ZV E.P et zv)(hzt: ∀S,(γ z).p S zv)(hmem:mS (xb γ) kv b none os m∈O)(hx:aK E.N G x (tV (oW b)))(hi:H1 E.N G i (kv k)):
  bW E O G ⟨dst,.lookup t x i true,ty,pos,after,g⟩ (tT [γ ((qw m k).getD z),tD rB (qw m k).isSome]):= .of_pure fun a w S hs ho hf=>by
 obtain⟨⟨_,_,es,clock,h3,h4,_⟩,_⟩:=cI.mem ho _ hmem
 obtain⟨q,hq,hd,hinj⟩:=hk
 have h1:a.eval x=oW b:=hx S a hf
 have h2:a.eval i=kv k:=hi S a hf
 obtain⟨_,_,_,h5⟩:=rE hd hinj (k:=k) 0 h4
 rcases h5 with⟨g1,g2⟩|⟨y,o,e,j,g1,g2,g3,g4,g5⟩
 ·refine⟨.tuple #[zv,.bool false],by simp [execOp,h1,h2,pF hm hq (hd k) h3 hz g2],[zv,.bool false],rfl,by rw [g1];exact hzt S,iP.2 (by rw [g1];rfl),trivial⟩
 ·refine⟨.tuple #[e.val,.bool true],by simp [execOp,h1,h2,pF hm hq (hd k) h3 hz g4],[e.val,.bool true],rfl,by rw [g1];exact g3.2,iP.2 (by rw [g1];rfl),trivial⟩
theorem zN{kk:Value}{es:Array MapEntry}{clock:Nat}{q:TypeDesc}{val:Value}(hm:P.underlying t=some (.map kt et))(hq:P.underlying kt=some q)(hk:MapKept.IsKey q kk)(hb:w.heap[b]? =some (.map es clock)):
  (Instr.findNow q kk es.toList 0=some none→(Instr.mapUpdate t (oW b) kk val).run P w= .ok () {w with heap:=w.heap.setIfInBounds b (.map (es.push ⟨kk,val,clock⟩) (clock+1))})∧
  (∀j e,Instr.findNow q kk es.toList 0=some (some (j,e))→(∀e',es.toList[j]? =some e' →e'.key=kk)→(∃e',es.toList[j]? =some e')→(Instr.mapUpdate t (oW b) kk val).run P w= .ok () {w with heap:=w.heap.setIfInBounds b (.map (es.modify j fun e=>{e with key:=kk,val:=val}) clock)}):=by
 refine⟨fun hf=>?_,fun j e hf hj he=>?_⟩
 ·simp [Instr.mapUpdate,oW,iN hm,Gg hb,JK hq hk,MapKept.run_findKey hq hf,MapKept.run_setObj_map _ hb,Result.andThen]
 ·obtain⟨e',he'⟩:=he
  have h1:=hj e' he'
  have h2:es[j]? =some e' :=by simpa using he'
  simp [Instr.mapUpdate,oW,iN hm,Gg hb,JK hq hk,MapKept.run_findKey hq hf,MapKept.run_setObj_map _ hb,Result.andThen,h2,h1,MapKept.run_keyThatStays hk]
theorem Ec{o:Option Nat×Nat}{val:Value}(hs:ii w S)(hm:E.P.underlying t=some (.map kt et))(hk:EC E.P kt kv)(hp:(mS V kv b (some k) os m).p w S)(hv:V.p w S y o val)(hob:o.1≠some b)(hap: ∀o' ∈os,∀j,o.1=some j→o'.1≠some j):
  ∃w' os',(Instr.mapUpdate t (oW b) (kv k) val).run E.P w= .ok () w' ∧fN (fun j=>j=b) w S w' S∧ii w' S∧(mS V kv b none os' (dM m k y)).p w' S∧(∀j,(mS V kv b none os' (dM m k y)).fp j→(mS V kv b (some k) os m).fp j∨o.1=some j):=by
 obtain⟨hno,hnb,es,clock,h3,h4,hst⟩:=hp
 obtain⟨q,hq,hdk,hinj⟩:=hk
 obtain⟨os',p1,p2⟩:=Es hdk hinj (born:=clock) hv 0 h4 hap
 have hnb' : ∀o' ∈os',o'.1≠some b:=fun o' ho' =>by
  rcases p1 o' ho' with h|rfl
  ·exact hnb o' h
  ·exact hob
 have hfp: ∀j,(j=b∨ ∃o∈os',o.1=some j)→(j=b∨ ∃o∈os,o.1=some j)∨o.1=some j:=fun j hj=>by
  rcases hj with h|⟨o',ho',e⟩
  ·exact .inl (.inl h)
  ·rcases p1 o' ho' with h|rfl
   ·exact .inl (.inr ⟨o',h,e⟩)
   ·exact .inr e
 have hw: ∀X:Obj,fN (fun j=>j=b) w S {w with heap:=w.heap.setIfInBounds b X} S∧ii {w with heap:=w.heap.setIfInBounds b X} S∧({w with heap:=w.heap.setIfInBounds b X}:World).heap[b]? =some X:=fun X=>
  ⟨⟨rfl,rfl,rfl,dN _,by simp,fun j _ hj=>(MapKept.heap_set (o' :=X) h3).2 j hj,SH.le_refl _,fun _ _ _=>rfl⟩,hs.same fun j o hj=>(MapKept.heap_set (o' :=X) h3).2 j (fun e=>by subst e;rw [hno]at hj;cases hj),(MapKept.heap_set h3).1⟩
 obtain⟨r1,r2⟩:=zN (val:=val) hm hq (hdk k) h3
 rcases p2 with⟨j,e,g1,g2,g3,g4⟩|⟨g1,g2⟩
 ·rw [o0]at g1
  obtain⟨x1,x2,x3⟩:=hw (.map (es.modify j fun e=>{e with key:=kv k,val:=val}) clock)
  refine⟨_,os',r2 j _ g1 (fun e' he' =>by rw [g2]at he';cases he';exact g3) ⟨_,g2⟩,x1,x2,⟨hno,hnb',_,_,x3,?_,MapKept.stamped_modify hst j _ (fun _ _=>rfl) (fun e' _ he' =>by rw [←Array.getElem?_toList,g2]at he';cases he';exact g3.symm)⟩,hfp⟩;refine y9 x1 (by rw [Array.toList_modify];exact g4) fun o' ho' j hj e=>?_
  subst e
  exact hnb' o' ho' hj
 ·obtain⟨x1,x2,x3⟩:=hw (.map (es.push ⟨kv k,val,clock⟩) (clock+1))
  refine⟨_,os',r1 g1,x1,x2,⟨hno,hnb',_,_,x3,?_,MapKept.stamped_push hst (fun x hx e=>?_)⟩,hfp⟩
  rotate_left
  ·exact LJ hdk h4 g1 hx e
  refine y9 x1 (by rw [Array.toList_push];exact g2) fun o' ho' j hj e=>?_
  subst e
  exact hnb' o' ho' hj
theorem Qu(hm:E.P.underlying t=some (.map kt et))(hk:EC E.P kt kv)(hx:aK E.N G x (tV (oW b)))(hi:H1 E.N G i (kv k))(hv:aK E.N G v (γ y))(h: ∀os',RG E ops Q rest (mS (xb γ) kv b none os' (dM m k y)::O) G):
  RG E ops Q (⟨none,.mapUpdate t x i v,ty,pos,after,none⟩::rest) (mS (xb γ) kv b none os m::O) G:= .of rfl fun a w S st=>by
 have h1:a.eval x=oW b:=hx S a st.facts
 have h2:a.eval i=kv k:=hi S a st.facts
 have h3:(γ y).p S (a.eval v):=hv S a st.facts
 obtain⟨⟨hp,hfp⟩,hap,hO⟩:=st.own
 obtain⟨hno,hnb,es,clock,e3,e4,hst⟩:=hp
 obtain⟨q,hq,hdk,hinj⟩:=hk
 obtain⟨os1,p1,p2,_⟩:=rE hdk hinj (k:=k) 0 e4
 have hnb1: ∀o∈os1,o.1≠some b:=fun o ho=>by
  rcases p1 o ho with h|h
  ·exact hnb o h
  ·rw [h];exact fun e=>by cases e
 obtain⟨w',os',r,x1,x2,x3,x4⟩:=Ec (V:=xb γ) (E:=E) (y:=y) (o:=(none,0)) (val:=a.eval v) st.sat hm ⟨q,hq,hdk,hinj⟩ ⟨hno,hnb1,es,clock,e3,p2,hst⟩ ⟨rfl,h3⟩ (fun e=>by cases e) (fun _ _ _ e=>by cases e)
 have hrun:(execOp a.eval ⟨none,.mapUpdate t x i v,ty,pos,after,none⟩).run E.P w= .ok .skip w' :=by simp [execOp,h1,h2,r]
 refine⟨fun c h=>(by cases h),?_⟩
 rw [hrun]
 have hfp' : ∀j,(mS (xb γ) kv b none os' (dM m k y)).fp j→(mS (xb γ) kv b none os m).fp j:=fun j hj=>by
  rcases x4 j hj with(h|⟨o,ho,e⟩)|e
  ·exact .inl h
  ·rcases p1 o ho with h|h
   ·exact .inr ⟨o,h,e⟩
   ·rw [h]at e;cases e
  ·cases e
 exact h os' _ _ S ⟨st.ext.step x1 (fun c hc=>hfp c (.inl hc)),x2,⟨⟨x3,fun j hj=>hfp j (hfp' j hj)⟩,fun f hf j hj=>hap f hf j (hfp' j hj),hO.ext x1 fun f hf j hj hjb=>hap f hf j (.inl hjb) hj⟩,st.facts⟩
end

def xz(tmps:Array Value):ResultVar→Sem Value
 | .tmp t=>pure (tmps.getD t undef)
 | .cell a t=>do loadVar t (←asAddr (tmps.getD a undef))
def KC(P:Program)(N:Fr)(G:kW)(rv:ResultVar)(t:Ty):Prop:= ∀a w S,ii w S→cR N S a G→ ∃v,(xz a.tmps rv).run P w= .ok v w∧t.p S v
theorem dl{N:Fr}{t:Ty}(hk:look G k=some t):KC P N G (.tmp k) t:=fun a w S _ hf=>⟨_,rfl,hf.at_ k t hk⟩
variable{U:TypeId}{agg:Bool}{bytes off sz:Nat}
theorem gb{N:Fr}{x:α}(ti:TI P T sz bytes agg z)(hsz:r.sz=sz)(hag:r.agg=agg)(hk:look G k=some (bw r x)):KC P N G (.cell k T) (tD r x):=fun a w S hs hf=>by
 obtain⟨b,off,c,U,fr,h1,h2,h3⟩:=hf.at_ k _ hk
 obtain⟨c',h4,h5⟩:=hs.part h2 (r.len h3)
 rw [←h5]at h3
 have hl:=ji ti h4 hsz hag h3
 have h1' :a.tmps[k]?.getD undef=Value.pointer (some ⟨b,off,none⟩):=by simpa [EM] using h1
 exact⟨_,by simp [xz,h1',asAddr,hl],_,rfl,h3⟩
def Md(P:Program)(N:Fr)(G:kW):List ResultVar→List Ty→Prop
 |[],[]=>True
 |rv::rvs,t::ts=>KC P N G rv t∧Md P N G rvs ts
 |_,_=>False
variable{ts:List Ty}
theorem Md.run{N:Fr}(hs:ii w S)(hf:cR N S a G): ∀{rvs:List ResultVar} {ts:List Ty},Md P N G rvs ts→ ∃vs,(rvs.mapM (xz a.tmps)).run P w= .ok vs w∧u9 S ts vs∧vs.length=rvs.length
 |[],[],_=>⟨[],rfl,trivial,rfl⟩
 |rv::rvs,t::ts,⟨h1,h2⟩=>by
  obtain⟨v,g1,g2⟩:=h1 a w S hs hf
  obtain⟨vs,k1,k2,k3⟩:=Md.run hs hf h2
  exact⟨v::vs,by simp [List.mapM_cons,g1,k1,Result.andThen],⟨g2,k2⟩,by simp [k3]⟩
variable{B:Nat→Prop}{S0:SH}{fn:Func}{w0:World}
theorem mO{rvs:List ResultVar}(hr:fn.results=rvs.toArray)(h1:Nat.beq rvs.length 1=false)(h:Md P ⟨N,[]⟩ G rvs ts):
  AT ⟨P,⟨N,[]⟩,B,w0,S0,none⟩ (bodyPost P fn (HG ⟨P,⟨N,[]⟩,B,w0,S0,none⟩ (tT ts))) .ret O G:=fun a w S st=>by
 obtain⟨vs,k1,k2,k3⟩:=h.run st.sat st.facts
 have hne: ¬vs.length=1:=by rw [k3];intro e;rw [e]at h1;cases h1
 refine⟨st.facts.defers,.tuple vs.toArray,?_,_,S,rfl,st.ext,st.sat,vs,rfl,k2⟩
 have e1:(fn.results.mapM (xz a.tmps)).run P w= .ok vs.toArray w:=by
  rw [hr,List.mapM_toArray,Sem.run_map,k1]
  rfl
 have e3:results fn a.tmps=((fn.results.mapM (xz a.tmps))>>=fun vs=>pure (if h:vs.size=1 then vs[0]else .tuple vs)):=rfl
 rw [e3,o4,e1]
 simp [Result.andThen,hne]

variable{cap:Nat}{cs:List Value}
theorem ML(h:(tD (eU r) xs).p S v):(eU r).rc S [v] xs:=by
 obtain⟨cs,e,h2⟩:=h
 obtain⟨a,cap,e2,h3⟩:=h2
 subst e2
 rw [e]
 exact⟨a,cap,rfl,h3⟩
variable{base:Nat}
section
variable{ty:TypeId}
theorem mH{r:Rp β}{get:β→Value}{x:β}{p:Operand}{l:Option Nat}(ti:TI E.P U 1 bytes false z)(hget:lV r off rV get)(hm:bx r T b x∈O)(hv:get x=aD l cap n)(hp:aK E.N G p (tV (aE b off))):
  bW E O G ⟨dst,.load U p,ty,pos,after,g⟩ (tV (aD l cap n)):=(aX (q:=rV) ti rfl rfl hget hm hp).imp fun _ _ h=>by rw [←hv];exact(ue.1 h).1
theorem pr{q:Rp α}{r:Rp β}{get:β→Value}{x:β}{V:TypeId}{p:Operand}{l:Option Nat}(ti:TI E.P U 1 bytes false z)(hget:lV r off rV get)(hm:bx r T b x∈O)(hm2:cv q V l cap xs∈O)(hv:get x=aD l cap xs.length)(hp:aK E.N G p (tV (aE b off))):
  bW E O G ⟨dst,.load U p,ty,pos,after,g⟩ (tO q l cap xs):=fun a w S hs ho hf=>
 mG (fun _ _ ⟨v,S',h1,h2,h3,h4⟩=>⟨v,S',h1,h2,h3,h4,by
  have h5:v=aD l cap xs.length:=h4
  rw [h5]
  exact oh (((ho.ext0 h2).mem _ hm2).1)⟩) (mH (g:=g) (ty:=ty) (pos:=pos) (after:=after) (dst:=dst) ti hget hm hv hp a w S hs ho hf)
theorem ki{i o:Nat}{p:Operand}(hf:ci E.P T i=some (off,sz))(h0:Nat.beq sz 0=false)(hp:aK E.N G p (tV (aE b o)))(he:o+off=n):bW E O G ⟨dst,.fieldAddr T p i,ty,pos,after,g⟩ (tV (aE b n)):=by
 subst he
 exact Dg hf h0 hp
theorem rs{q:Rp α}{r:Rp β}{x:β}{y:α}{p:Operand}(ti:TI E.P U sz bytes agg z)(hsz:q.sz=sz)(hag:q.agg=agg)(hag2:r.agg=agg)(hsz2:r.sz=sz)(hm:bx r T b x∈O)(hc: ∀w S cs,cI E.base E.B w S O→r.rc S cs x→q.rc S cs y)(hp:aK E.N G p (tV (aE b 0))):
  bW E O G ⟨dst,.load U p,ty,pos,after,g⟩ (tD q y):= .of_pure fun a w S _ ho hf=>by
 have h1:a.eval p=aE b 0:=hp S a hf
 obtain⟨⟨_,cur,h5,h6⟩,_⟩:=ho.mem _ hm
 have h7:=hc w S _ ho h6
 have hl:=q.len h7
 have h8:q.rc S ((cur.toList.drop 0).take q.sz) y:=by rw [qr,pV (by omega)];exact h7
 exact⟨_,by simp [execOp,h1,aE,Instr.loadAt,Instr.sureAddr,ji ti h5 hsz hag h8],_,rfl,h8⟩
theorem wv{q:Rp α}{V:TypeId}{l:Option Nat}(ho:cI base B w S O)(hm:cv q V l cap xs∈O):(eU q).rc S [aD l cap xs.length] xs:=ML (oh (ho.mem _ hm).1)
end
def rG{α β γ:Type}(r:Rp α)(r' :Rp γ)(off:Nat)(q:Rp β)(x:α)(y:β)(x' :γ):Prop:= ∀S cs ds,r.rc S cs x→q.rc S ds y→r'.rc S (cs.take off++ds++cs.drop (off+q.sz)) x'
variable{set:α→β→α}
theorem ui{x:α}(h:fL r off q set):rG r r off q x y (set x y):=fun S cs ds h1 h2=>h S cs x ds y h1 h2
theorem nJ{γ:Type}{r' :Rp γ}{x:α}{y:γ}(hs:r.sz=r'.sz):rG r r' 0 r' x y y:=fun S cs ds h1 h2=>by
 have hl:=r.len h1
 rw [List.take_zero,iv,sT (by omega),yb]
 exact h2
theorem Bq{α' γ:Type}{p:Rp α}{p' :Rp α'}{x:α×β}{y:γ}{u:Rp γ}{x1:α'}(h:rG p p' 0 u x.1 y x1)(hu:Nat.ble u.sz p.sz=true):rG (cc p q) (cc p' q) 0 u x y (x1,x.2):=fun S cs ds ⟨a,b,e,h1,h2⟩ hd=>by
 have hl:=p.len h1
 have hu' :=nW hu
 have h3:=h S a ds h1 hd
 subst e
 rw [List.take_zero,iv,o0,F8 (by omega),←n6]
 rw [List.take_zero,iv,o0]at h3
 exact⟨_,_,rfl,h3,h2⟩
theorem gh{β' γ:Type}{p:Rp α}{q' :Rp β'}{x:α×β}{y:γ}{u:Rp γ}{off' :Nat}{x2:β'}(h:rG q q' off u x.2 y x2)(ho:off' =p.sz+off):rG (cc p q) (cc p q') off' u x y (x.1,x2):=fun S cs ds ⟨a,b,e,h1,h2⟩ hd=>by
 have hl:=p.len h1
 have h3:=h S b ds h2 hd
 subst e ho
 refine⟨a,_,?_,h1,h3⟩
 have e1:p.sz+off-a.length=off:=by omega
 have e2:p.sz+off+u.sz-a.length=off+u.sz:=by omega
 rw [List.take_append,List.drop_append,pV (by omega),sT (by omega),e1,e2]
 simp
theorem yx{α' β' γ:Type}{p:Rp α}{p' :Rp α'}{f:β→α}{f' :β' →α'}{x:β}{x' :β'}{y:γ}{u:Rp γ}{z:α'}(h:rG p p' off u (f x) y z)(e:f' x' =z):rG (lb p f) (lb p' f') off u x y x' :=fun S cs ds h1 h2=>by
 show p'.rc S _ (f' x')
 rw [e]
 exact h S cs ds h1 h2
section
variable{ty:TypeId}
theorem lu{γ:Type}{r' :Rp γ}{x:α}{x' :γ}{p v:Operand}(ti:TI E.P U sz bytes agg z)(hsz:q.sz=sz)(hset:rG r r' off q x y x')(hoff:Nat.ble (off+q.sz) r.sz=true)(hp:aK E.N G p (tV (aE b off)))(hv:aK E.N G v (tD q y))(k:RG E ops Q rest (bx r' T b x' ::O) G):RG E ops Q (⟨none,.store U p v,ty,pos,after,none⟩::rest) (bx r T b x::O) G:= .of rfl fun a w S st=>by
 have h1:a.eval p=aE b off:=hp S a st.facts
 obtain⟨ds,h2,h3⟩:=hv S a st.facts
 obtain⟨⟨hno,cur,h5,h6⟩,_⟩:=st.own.1
 have hl:=r.len h6
 have hoff' :=nW hoff
 obtain⟨w',hr,e1,e2,e3,e4,e5,e6⟩:=jF ti hsz h3 h5 (off:=off) (by simp at hl;omega)
 have hrun:(execOp a.eval ⟨none,.store U p v,ty,pos,after,none⟩).run E.P w= .ok .skip w' :=by
  simp [execOp,h1,h2,Instr.storeAt,aE,Instr.sureAddr,hr]
 refine⟨fun c h=>(by cases h),?_⟩
 rw [hrun]
 obtain⟨g1,g2,g3⟩:=pp (O:=O) st.sat (bx r T b x) (bx r' T b x') st.own (fun _=>Iff.rfl) (fun _=>Iff.rfl) ⟨e1,e2,e3,e4.1,e4.2⟩ e6 ⟨hno,_,e5,by simpa using hset S _ _ h6 h3⟩ hno
 exact k _ _ S ⟨st.ext.step g1 (fun c hc=>st.own.1.2 c hc),g2,g3,st.facts⟩
end

section
variable{b:Frame}{k:List Item}{cs:List Frame}{F:Fence}
theorem nI:step P (lone (b.atR a (.code (.scope c)::k)) cs w)= .next (lone (b.atR a (.code c:: .inScope c::k)) cs w):=
 step_lone_go (by simp [stepG,stepG.exec,Frame.atR])
theorem C6:step P (lone (b.atR a (.inScope c::k)) cs w)= .next (lone (b.atR a k) cs w):=
 step_lone_go (by simp [stepG,stepG.exec,Frame.atR])
theorem Ij(h:c.wpIn F n P (Exit.noGoto Q) a w):(Code.scope c).wpIn F n P Q a w:=by
 intro b k cs hro hb hr
 have h0:(lone (b.atR a (.code (.scope c)::k)) cs w).fenced P F:=fenced_calm hb hr rfl
 obtain⟨e,a₁,w₁,hq,harr⟩:=h b (.inScope c::k) cs hro hb hr
 cases e with
 |normal=>exact⟨.normal,a₁,w₁,hq,.head h0 nI (StepsIn.trans harr (.one (fenced_calm hb hr rfl) C6))⟩
 |exit id=>
  have hx:exitTo id (.inScope c::k)=exitTo id k:=by simp [exitTo]
  exact⟨.exit id,a₁,w₁,hq,fun k' hk=> .head h0 nI (harr.1 k' (by rw [hx];exact hk)),
   fun hr' hk=>let⟨k₁,h1,h2⟩:=harr.2 hr' (by rw [hx];exact hk);⟨k₁,h1,.head h0 nI h2⟩⟩
 |goto l=>exact hq.elim
 |ret=>exact⟨_,a₁,w₁,hq,.of_steps (.one h0 nI) harr⟩
 |panic ch=>exact⟨_,a₁,w₁,hq,.of_steps (.one h0 nI) harr⟩
 |outgrown=>exact⟨_,a₁,w₁,hq,.of_steps (.one h0 nI) harr⟩
end
section
theorem Oz(h:CG E (Exit.noGoto Q) c O G):CG E Q (.scope c) O G:=fun a w S st=>Ij (h a w S st)
theorem OA{l:Nat}(h:AT E Q .normal O G):CG E Q (.label l) O G:=fun a w S st=>wpIn_label (h a w S st)
theorem EI(h:AT E Q .ret O G):AT E (Exit.noGoto Q) .ret O G:=h
end

theorem Ft [Inhabited α]{m i:Nat}(h:i<m):lV (s5 r m) (i*r.sz) r (fun x=>(x[i]?).getD default):=fun S cs x ⟨h1,h2⟩=>by
 have hi:x[i]? =some ((x[i]?).getD default):=by rw [pE (by omega)];rfl
 exact Bs h2 hi
theorem Ql [DecidableEq α] [Inhabited α]{m t e:Nat}(ht:P.underlying t=some (.array m e))(ti:TI P e sz bytes agg z)(hsz:r.sz=sz)(hag:r.agg=agg)(he:qq P e r n):qq P t (s5 r m) (n+1):=fun S cs ds x y d w hx hy=>by
 obtain⟨i,zv,hi,hs,_⟩:=ti.get
 have hcell:P.cellsOf e=r.sz:=by unfold Program.cellsOf;rw [hi];simp [hs,hsz]
 have e1:(s5 r m).val cs= .agg cs.toArray:=rfl
 have e2:(s5 r m).val ds= .agg ds.toArray:=rfl
 rw [e1,e2,show d+(n+1)=(d+n)+1 from rfl,run_equalIn_array w (d+n) cs.toArray ds.toArray ht hi,List.range_eq_range',hcell]
 have key: ∀k j,j+k=m→(Op.eqItems (d+n) e r.sz cs.toArray ds.toArray (List.range' j k)).run P w= .ok (decide (x.drop j=y.drop j)) w:=by
  intro k
  induction k with
  |zero=>
   intro j hj
   rw [sT (by have:=hx.1;omega),sT (by have:=hy.1;omega)]
   rfl
  |succ k ih=>
   intro j hj
   have hjx:j<x.length:=by have:=hx.1;omega
   have hjy:j<y.length:=by have:=hy.1;omega
   have h1:=qJ ti hsz hag (Ft (r:=r) (m:=m) (i:=j) (by omega)) hx w
   have h2:=qJ ti hsz hag (Ft (r:=r) (m:=m) (i:=j) (by omega)) hy w
   have h3:=he S _ _ _ _ d w (Ft (r:=r) (m:=m) (i:=j) (by omega) S cs x hx) (Ft (r:=r) (m:=m) (i:=j) (by omega) S ds y hy)
   rw [List.range'_succ]
   unfold Op.eqItems
   simp only [o4,h1,h2,h3,qt]
   have ex:x.drop j=(x[j]?).getD default::x.drop (j+1):=by rw [pE hjx];exact pW hjx
   have ey:y.drop j=(y[j]?).getD default::y.drop (j+1):=by rw [pE hjy];exact pW hjy
   rw [ex,ey]
   by_cases hq:(x[j]?).getD default=(y[j]?).getD default
   ·simp only [hq,decide_true,nT,mz,iM]
    rw [ih (j+1) (by omega)]
    congr 1
    simp
   ·simp [hq]
 have:=key m 0 (by omega)
 simpa using this
variable{ys:List α}
section
variable{ty:TypeId}
theorem zW{xs:List Operand}{m sz' bytes' :Nat}{agg' :Bool}{z' :List Value}(ht:E.P.underlying t=some (.array m T))(ti:TI E.P T sz bytes agg z)(hsz:r.sz=sz)(tj:TI E.P t sz' bytes' agg' z')(hz:z'.length=m*r.sz)(hm:m=ys.length)(hx:iW E.N G xs (ys.map (tD r))):bW E O G ⟨dst,.build t (xe 0 xs).toArray,ty,pos,after,g⟩ (tD (s5 r m) ys):=
 .of_pure fun a w S _ _ hF=>by
  obtain⟨zv,hzr,hzc⟩:=tj.zero w
  obtain⟨cs,hc,hfill⟩:=Cy ys (xs.map a.eval) 0 [] z' (hx.tys hF) (by simp) (by rw [hz,hm])
  subst hsz
  have hparts:((xe 0 xs).toArray.map fun(i,x)=>(i,a.eval x)).toList=AR 0 (xs.map a.eval):=by simpa using z8 a.eval 0 xs
  rw [iv,iv]at hfill
  refine⟨.agg cs.toArray,?_,cs,rfl,hm.symm,hc⟩
  simp only [execOp,Instr.build,o4,hzr,qt,iN ht,ti.sizeOf,hzc,hparts,hfill]
  simp
end

def vq(N:Nat):List Nat→List Oper→Bool
 |_,[]=>true
 |seen,o::rest=>match o.dst with
  |some d=>Nat.blt d N&& !(seen.any (Nat.beq d))&&vq N (d::seen) rest
  |none=>vq N seen rest
theorem Av(l:List Oper): ∀(seen:List Nat),vq N seen l=true→
  (∀o:Oper,o∈l→ ∀d,o.dst=some d→d<N∧d∉seen)∧ ∀(i j:Nat) (o p:Oper) (d:Nat),l[i]? =some o→l[j]? =some p→o.dst=some d→p.dst=some d→i=j:=by
 induction l with
 |nil=>exact fun _ _=>⟨fun _ h=>(by cases h),fun _ _ _ _ _ h=>(by simp at h)⟩
 |cons o l ih=>
  intro seen h
  unfold vq at h
  cases hd:o.dst with
  |none=>
   rw [hd]at h
   obtain⟨h1,h2⟩:=ih seen h
   refine⟨fun q hq d hqd=>?_,fun i j p q d hi hj hp hq=>?_⟩
   ·rcases gz.1 hq with rfl|hq
    ·rw [hd]at hqd;cases hqd
    ·exact h1 q hq d hqd
   ·cases i with
    |zero=>simp at hi;subst hi;rw [hd]at hp;cases hp
    |succ i=>
     cases j with
     |zero=>simp at hj;subst hj;rw [hd]at hq;cases hq
     |succ j=>rw [h2 i j p q d (by simpa using hi) (by simpa using hj) hp hq]
  |some d0=>
   rw [hd]at h
   simp only [jD,tk,zB]at h
   obtain⟨⟨g1,g2⟩,g3⟩:=h
   obtain⟨h1,h2⟩:=ih (d0::seen) g3
   have hns:d0∉seen:=fun hm=>by
    have:seen.any (Nat.beq d0)=true:=A3.2 ⟨d0,hm,Nat.beq_refl d0⟩
    rw [this]at g2;cases g2
   refine⟨fun q hq d hqd=>?_,fun i j p q d hi hj hp hq=>?_⟩
   ·rcases gz.1 hq with rfl|hq
    ·rw [hd]at hqd;cases hqd;exact⟨g1,hns⟩
    ·obtain⟨k1,k2⟩:=h1 q hq d hqd
     exact⟨k1,fun hm=>k2 (nE _ hm)⟩
   ·cases i with
    |zero=>
     cases j with
     |zero=>rfl
     |succ j=>
      simp at hi;subst hi
      rw [hd]at hp;cases hp
      exact absurd (nm ..) (h1 q (qE (by simpa using hj)) d0 hq).2
    |succ i=>
     cases j with
     |zero=>
      simp at hj;subst hj
      rw [hd]at hq;cases hq
      exact absurd (nm ..) (h1 p (qE (by simpa using hi)) d0 hp).2
     |succ j=>rw [h2 i j p q d (by simpa using hi) (by simpa using hj) hp hq]
def G4:List Oper→List Ty→kW→kW
 |o::l,t::ts,G=>match o.dst with
  |some d=>(d,t)::G4 l ts G
  |none=>G4 l ts G
 |_,_,G=>G
theorem Ee(l:List Oper): ∀(ts:List Ty) (k:Nat) (t:Ty),ts.length=l.length→look (G4 l ts G) k=some t→
  (∃(j:Nat) (o:Oper),l[j]? =some o∧o.dst=some k∧ts[j]? =some t)∨(look G k=some t∧ ∀o:Oper,o∈l→o.dst≠some k):=by
 induction l with
 |nil=>
  intro ts k t hl h
  have:ts=[]:=tp (by simpa using hl)
  subst this
  exact .inr ⟨h,fun _ h=>(by cases h)⟩
 |cons o l ih=>
  intro ts k t hl h
  cases ts with
  |nil=>simp at hl
  |cons u ts=>
   unfold G4 at h
   have hl' :ts.length=l.length:=by simpa using hl
   have lift:((∃(j:Nat) (p:Oper),l[j]? =some p∧p.dst=some k∧ts[j]? =some t)∨(look G k=some t∧ ∀p:Oper,p∈l→p.dst≠some k))→o.dst≠some k→
     (∃(j:Nat) (p:Oper),(o::l)[j]? =some p∧p.dst=some k∧(u::ts)[j]? =some t)∨(look G k=some t∧ ∀p:Oper,p∈o::l→p.dst≠some k):=by
    rintro(⟨j,p,h1,h2,h3⟩|⟨h1,h2⟩) hne
    ·exact .inl ⟨j+1,p,by simpa using h1,h2,by simpa using h3⟩
    ·exact .inr ⟨h1,fun p hp=>(gz.1 hp).elim (fun e=>by subst e;exact hne) (h2 p)⟩
   cases hd:o.dst with
   |none=>
    rw [hd]at h
    exact lift (ih ts k t hl' h) (by rw [hd];exact fun e=>by cases e)
   |some d=>
    rw [hd]at h
    simp only at h
    unfold look at h
    by_cases hb:Nat.beq d k=true
    ·rw [hb]at h
     have:=mQ hb
     subst this
     have e:u=t:=by simpa using h
     subst e
     exact .inl ⟨0,o,rfl,hd,rfl⟩
    ·rw [yc]at hb
     rw [hb]at h
     refine lift (ih ts k t hl' h) ?_
     rw [hd]
     intro e
     have:d=k:=nV e
     subst this
     simp at hb
abbrev TS:=List Nat×(List OI→Ty)
def TS.at(p:TS)(σ:Nat→OI):Ty:=p.2 (p.1.map σ)
def tc(t:Ty):TS:=([],fun _=>t)
def Ms(Ss:List ((Nat→OI)→List OE))(c:Nat)(σ:Nat→OI):List OE:=match Ss[c]? with|some f=>f σ|none=>[]
structure NS where
 slot:Nat
 ty:(Nat→OI)→Ty
 src:Option Nat
def NS.at(n:NS)(σ:Nat→OI):Nd:=⟨n.slot,n.ty σ,n.src⟩
def Qx(G:kW)(ts:List TS)(n:NS):Prop:=
 match n.src with
 |some j=> ∀σ,(ts[j]?).map (fun p=>p.at σ)=some (n.ty σ)
 |none=> ∀σ,look G n.slot=some (n.ty σ)
def uZ(G:kW)(ts:List TS):List NS→Prop
 |[]=>True
 |n::l=>Qx G ts n∧uZ G ts l
theorem uZ.mem{ts:List TS}: ∀{l:List NS},uZ G ts l→ ∀n∈l,Qx G ts n
 |_::_,⟨h,_⟩,_,.head _=>h
 |_::_,⟨_,h⟩,_,.tail _ hm=>uZ.mem h _ hm
def uW(l:List NS)(σ:Nat→OI):kW:=iR (l.map (·.at σ))
def OG(ts:List TS)(σ:Nat→OI):List Ty:=ts.map fun p=>p.at σ
def LU(L:List Oper)(es:List Bool)(i:Nat)(p:TS):Bool:=p.1.all fun k=>(es[k]?).getD false&&(Nat.beq k i||lW L L.length i k)
def Rw(L:List Oper)(es:List Bool)(i lo hi:Nat):Bool:=
 Nat.ble lo (fm es es.length)&&(List.range es.length).all fun k=> !((es[k]?).getD false)||((Nat.ble lo (fm es k)||lW L L.length i k)&&(Nat.blt (fm es k) hi||lW L L.length k i))
def DS(E:En)(G:kW)(L:List Oper)(ts:List TS)(Ss:List ((Nat→OI)→List OE))(es0:List Bool):Nat→Nat→List Oper→List Bool→Prop
 |_,_,[],_=>True
 |i,c,o::rest,false::es=>(∃(needs:List NS) (t:TS) (lo hi:Nat),ts[i]? =some t∧uZ G ts needs∧(needs.all fun n=>oj L o i (n.at fun _=>o7))=true∧d7 i o=true∧LU L es0 i t=true∧Rw L es0 i lo hi=true∧o.dst.isSome=true∧
   ∀c σ,lo≤c→c≤hi→cd E (Ms Ss c σ) L.toArray (uW needs σ) o (t.at σ))∧DS E G L ts Ss es0 (i+1) c rest es
 |i,c,o::rest,true::es=>(∃(needs:List NS) (t:TS),ts[i]? =some t∧uZ G ts needs∧(needs.all fun n=>oj L o i (n.at fun _=>o7))=true∧d7 i o=true∧LU L es0 i t=true∧
   ∀σ,lG E L.toArray (Ms Ss c σ) (uW needs σ) o (fun x=>Ms Ss (c+1) (Gp σ i x)) (fun x=>t.at (Gp σ i x)))∧DS E G L ts Ss es0 (i+1) (c+1) rest es
 |_,_,_::_,[]=>False
variable{L:List Oper}{Ss:List ((Nat→OI)→List OE)}{lo:Int}{σ:Type}
theorem DS.get{ts:List TS}{es0:List Bool}: ∀(r:List Oper) (es:List Bool) (k c:Nat),DS E G L ts Ss es0 k c r es→ ∀(j:Nat) (o:Oper),r[j]? =some o→
    ∃e,es[j]? =some e∧ ∃(needs:List NS) (t:TS),ts[k+j]? =some t∧uZ G ts needs∧(needs.all fun n=>oj L o (k+j) (n.at fun _=>o7))=true∧d7 (k+j) o=true∧LU L es0 (k+j) t=true∧
      (match e with
       |false=>o.dst.isSome=true∧ ∃lo hi,Rw L es0 (k+j) lo hi=true∧ ∀c σ,lo≤c→c≤hi→cd E (Ms Ss c σ) L.toArray (uW needs σ) o (t.at σ)
       |true=> ∀σ,lG E L.toArray (Ms Ss (c+fm es j) σ) (uW needs σ) o (fun x=>Ms Ss (c+fm es j+1) (Gp σ (k+j) x)) (fun x=>t.at (Gp σ (k+j) x))):=by
  intro r
  induction r with
  |nil=>intro es k c _ j o h;simp at h
  |cons p r ih=>
    intro es k c h j o ho
    cases es with
    |nil=>exact h.elim
    |cons e es=>
      cases e with
      |false=>
        obtain⟨⟨needs,t,lo,hi,g1,g2,g3,g4,g5,g6,g7,g8⟩,h2⟩:=h
        cases j with
        |zero=>
          simp at ho;subst ho
          exact⟨false,rfl,needs,t,g1,g2,g3,g4,g5,g7,lo,hi,g6,g8⟩
        |succ j=>
          obtain⟨e',g1,g2⟩:=ih es (k+1) _ h2 j o (by simpa using ho)
          refine⟨e',by simpa using g1,?_⟩
          rw [show k+1+j=k+(j+1)from by omega]at g2
          have e1:c+fm (false::es) (j+1)=c+fm es j:=by simp [fm]
          rw [e1];exact g2
      |true=>
        obtain⟨h1,h2⟩:=h
        cases j with
        |zero=>
          simp at ho;subst ho
          exact⟨true,rfl,h1⟩
        |succ j=>
          obtain⟨e',g1,g2⟩:=ih es (k+1) _ h2 j o (by simpa using ho)
          refine⟨e',by simpa using g1,?_⟩
          rw [show k+1+j=k+(j+1)from by omega]at g2
          have e1:c+fm (true::es) (j+1)=c+1+fm es j:=by simp [fm];omega
          rw [e1];exact g2
structure Q3(E:En)(G:kW)(l:List Oper)(ts:List TS)(Ss:List ((Nat→OI)→List OE))(es:List Bool)(done:Array Bool)(a:Act)(w:World)(S:SH)(σ:Nat→OI)(c:Nat):Prop where
 ext:fN E.B E.w0 E.S0 w S
 sat:ii w S
 own:cI E.base E.B w S (Ms Ss c σ)
 size:a.tmps.size=E.N.n
 defers:a.defers=E.N.ds
 dsz:done.size=l.length
 down: ∀j o,l[j]? =some o→done.getD j false=true→ ∀e∈o.after,Region.binds .any e=true→done.getD e.on false=true
 old: ∀k t,look G k=some t→(∀j o,l[j]? =some o→done.getD j false=true→o.dst≠some k)→t.p S (a.tmps.getD k undef)
 new: ∀j o d p,l[j]? =some o→done.getD j false=true→o.dst=some d→ts[j]? =some p→(p.at σ).p S (a.tmps.getD d undef)
 deps: ∀j p,done.getD j false=true→ts[j]? =some p→ ∀k∈p.1,done.getD k false=true
 chain: ∀k,es[k]? =some true→(done.getD k false=true↔fm es k<c)
section
variable{ts:List TS}{es:List Bool}
theorem Q3.need{done:Array Bool}{σ:Nat→OI}{c:Nat}(h:Q3 E G L ts Ss es done a w S σ c){i:Nat}(hi:L[i]? =some o)(hun:done.getD i true=false)(hwait: ∀e∈o.after,Region.binds .any e=true→done.getD e.on false=true){needs:List NS}(h1:uZ G ts needs)(h2:(needs.all fun n=>oj L o i (n.at fun _=>o7))=true):cR E.N S a (uW needs σ):=by
 have hlt:i<done.size:=by rw [h.dsz];exact(oT.1 hi).1
 have hun' :done.getD i false=false:=by
  simp [hlt]at hun ⊢;exact hun
 refine⟨h.size,h.defers,?_⟩
 have key: ∀n∈needs,(n.ty σ).p S (a.tmps.getD n.slot undef):=by
  intro n hn
  have hs:=mP.1 h2 n hn
  have ho:=h1.mem n hn
  unfold oj NS.at at hs
  unfold Qx at ho
  cases hsrc:n.src with
  |some j=>
   rw [hsrc]at hs ho
   simp only [jD]at hs
   obtain⟨hs1,hs2⟩:=hs
   cases hj:L[j]? with
   |none=>rw [hj]at hs1;cases hs1
   |some p=>
    rw [hj]at hs1
    cases hd:p.dst with
    |none=>simp only [hd]at hs1;cases hs1
    |some d=>
     simp only [hd]at hs1
     have hd' :=mQ hs1
     subst hd'
     have hdone:done.getD j false=true:=by
      unfold Ar at hs2
      obtain⟨e,he0,hb⟩:=A3.1 hs2
      have he:e∈o.after:=by simpa using he0
      simp only [jD]at hb
      have:=hwait e he hb.2
      rwa [mQ hb.1]at this
     have hm:=ho σ
     cases hf:ts[j]? with
     |none=>rw [hf]at hm;simp at hm
     |some f=>
      rw [hf]at hm
      have e:f.at σ=n.ty σ:=by simpa using hm
      rw [←e]
      exact h.new j p n.slot f hj hdone hd hf
  |none=>
   rw [hsrc]at hs ho
   refine h.old _ _ (ho σ) fun j p hj hdone hd=>?_
   have:=mP.1 hs p (qE hj)
   simp only [hd,Nat.beq_refl,nT,u0]at this
   unfold Ar at this
   obtain⟨e,he0,hb⟩:=A3.1 this
   have he:e∈p.after:=by simpa using he0
   simp only [jD]at hb
   have h3:=h.down j p hj hdone e he hb.2
   rw [mQ hb.1]at h3
   rw [h3]at hun'
   cases hun'
 clear h1 h2
 intro k t hk
 unfold uW at hk
 induction needs with
 |nil=>simp [iR,look]at hk
 |cons n needs ih=>
  simp only [wL]at hk
  unfold iR look at hk
  by_cases hb:Nat.beq n.slot k=true
  ·have hb' :Nat.beq (n.at σ).slot k=true:=hb
   rw [hb']at hk
   have:=mQ hb
   subst this
   have h9:some (n.at σ).ty=some t:=by simpa using hk
   have e:n.ty σ=t:=nV h9
   rw [←e]
   exact key n (nm ..)
  ·rw [yc]at hb
   have hb' :Nat.beq (n.at σ).slot k=false:=hb
   rw [hb']at hk
   exact ih (fun m hm=>key m (nE _ hm)) hk
theorem Q3.step{done:Array Bool}{σ σ' :Nat→OI}{c c' :Nat}(h:Q3 E G L ts Ss es done a w S σ c){i:Nat}{p0:TS}{C:Nat→Prop}(hi:L[i]? =some o)(hdN: ∀d,o.dst=some d→d<E.N.n)(hs2: ∀d,o.dst=some d→ ∀j p,L[j]? =some p→done.getD j false=true→p.dst=some d→i=j)(hwait: ∀e∈o.after,Region.binds .any e=true→done.getD e.on false=true)(ht:ts[i]? =some p0)(hun:done.getD i true=false)(hdep: ∀k∈p0.1,k=i∨done.getD k false=true)(hext:fN C w S w' S')(hC: ∀b,C b→E.base≤b∨E.B b)(hsat:ii w' S')(hown:cI E.base E.B w' S' (Ms Ss c' σ'))(hσ: ∀k,k≠i→σ' k=σ k)(hv:(p0.at σ').p S' v)(hch: ∀k,es[k]? =some true→((done.setIfInBounds i true).getD k false=true↔fm es k<c')):
  Q3 E G L ts Ss es (done.setIfInBounds i true) (a.put o.dst v) w' S' σ' c' :=by
 have hlt:i<done.size:=by rw [h.dsz];exact(oT.1 hi).1
 have hset: ∀j,(done.setIfInBounds i true).getD j false=true→j=i∨done.getD j false=true:=fun j hj=>by
  by_cases hij:i=j
  ·exact .inl hij.symm
  ·rw [tt false hij]at hj;exact .inr hj
 have hseti:(done.setIfInBounds i true).getD i false=true:=by simp [hlt]
 have hun' :done.getD i false=false:=by simp [hlt]at hun ⊢;exact hun
 have hput: ∀k,(∀d,o.dst=some d→d≠k)→(a.put o.dst v).tmps.getD k undef=a.tmps.getD k undef:=fun k hk=>by
  cases hd:o.dst with
  |none=>rfl
  |some d=>
   have hda:d<a.tmps.size:=by rw [h.size];exact hdN d hd
   rw [pO hda,bg (hk d hd)]
 refine⟨h.ext.step hext hC,hsat,hown,?_,?_,by simp [h.dsz],fun j p hj hdone e he hb=>?_,fun k u hk hno=>?_,fun j p d' u hj hdone hd' hu=>?_,fun j u hj hu k hk=>?_,hch⟩
 ·cases o.dst with
  |none=>exact h.size
  |some d=>simp [Act.put,h.size]
 ·cases o.dst with
  |none=>exact h.defers
  |some d=>exact h.defers
 ·rcases hset j hdone with rfl|hj'
  ·rw [hi]at hj
   have:o=p:=by simpa using hj
   subst this
   exact t6 (hwait e he hb)
  ·exact t6 (h.down j p hj hj' e he hb)
 ·rw [hput k fun d hd e=>hno i o hi hseti (by rw [hd,e])]
  exact u.mono hext.keep (h.old k u hk fun j p hj hdone=>hno j p hj (t6 hdone))
 ·by_cases hij:j=i
  ·subst hij
   rw [hi]at hj
   have:o=p:=by simpa using hj
   subst this
   have hda:d' <a.tmps.size:=by rw [h.size];exact hdN d' hd'
   rw [hd',pO hda,bm rfl]
   rw [ht]at hu
   have:p0=u:=by simpa using hu
   subst this
   exact hv
  ·have hj' :=(hset j hdone).resolve_left hij
   rw [hput d' fun d hd e=>by subst e;exact hij (hs2 d hd j p hj hj' hd').symm]
   have e1:u.at σ' =u.at σ:=congrArg u.2 (Ga fun k hk=>hσ k fun e=>by
     subst e
     rw [h.deps j u hj' hu k hk]at hun';cases hun')
   rw [e1]
   exact Ty.mono _ hext.keep (h.new j p d' u hj hj' hd' hu)
 ·rcases hset j hj with rfl|hj'
  ·rw [ht]at hu
   have:p0=u:=by simpa using hu
   subst this
   rcases hdep k hk with rfl|h'
   ·exact hseti
   ·exact t6 h'
  ·exact t6 (h.deps j u hj' hu k hk)
end
theorem Gm{l t:List Oper}{ts:List TS}{es:List Bool}(hsl:vq E.N.n [] l=true)(hlen:ts.length=l.length)(hesl:es.length=l.length)(hd:DS E G (l++t) ts Ss es 0 0 l es)(hch:Jv (l++t) es=true)(ht:wW (l++t) l.length t.length=true)(hQ: ∀a w S σ,St E (Ms Ss (fm es es.length) σ) (G4 l (OG ts σ) G) a w S→wpListIn (fw E.r) 0 E.P (l++t).toArray Q t a w):
  ∀(fuel:Nat) (done:Array Bool) (a:Act) (w:World) (S:SH) (σ:Nat→OI) (c:Nat),j7 done=fuel→(∀j,l.length≤j→done.getD j false=false)→c≤fm es es.length→Q3 E G (l++t) ts Ss es done a w S σ c→wpAnyIn (fw E.r) 0 E.P .any (l++t).toArray Q fuel done a w:=by
 have hL1: ∀i o,i<l.length→(l++t)[i]? =some o→l[i]? =some o:=fun i o hi h=>by rwa [t8 hi]at h
 have hL2: ∀i o,l[i]? =some o→(l++t)[i]? =some o:=fun i o h=>by rw [t8 (oT.1 h).1];exact h
 have htail: ∀m o,l.length≤m→(l++t)[m]? =some o→uQ (l++t) m=true∧d7 m o=true:=fun m o hm ho=>by
  have hml:m<(l++t).length:=(oT.1 ho).1
  rw [jA]at hml
  unfold wW at ht
  have:=mP.1 ht (m-l.length) (by simp;omega)
  rw [show l.length+(m-l.length)=m from by omega,ho]at this
  simp only [jD]at this
  exact⟨this.1,this.2.1⟩
 have hget:=fun i o (hi:l[i]? =some o)=>DS.get l es 0 0 hd i o hi
 have hedge: ∀i o,(l++t)[i]? =some o→d7 i o=true:=fun i o hi=>by
  rcases jM i l.length with h|h
  ·obtain⟨_,_,_,_,_,_,_,h,_⟩:=hget i o (hL1 i o h hi)
   simpa using h
  ·exact(htail i o h hi).2
 obtain⟨hs1,hs2⟩:=Av l [] hsl
 have fin: ∀fuel done a w S σ c,j7 done=fuel→(∀j,l.length≤j→done.getD j false=false)→c≤fm es es.length→Q3 E G (l++t) ts Ss es done a w S σ c→(∀i,i<l.length→done.getD i false=true)→wpAnyIn (fw E.r) 0 E.P .any (l++t).toArray Q fuel done a w:=by
  intro fuel done a w S σ c hu hfree hcle h hall
  have hcc:c=fm es es.length:=by
   rcases jM c (fm es es.length)with hlt|hge
   ·obtain⟨i,h1,h2,h3⟩:=uR hlt
    have:=(h.chain i h2).1 (hall i (by omega))
    omega
   ·omega
  subst hcc
  refine xn (n:=l.length) (fun m o hm ho=>(htail m o hm ho).1) hedge t l.length done fuel a w (dN _) (by simp) h.dsz (fun j hj=>⟨fun hjd=>?_,fun hlt=>hall j hlt⟩) hu
   (hQ a w S σ ⟨h.ext,h.sat,h.own,h.size,h.defers,fun j u hj=>?_⟩)
  ·rcases jM j l.length with h' |h'
   ·exact h'
   ·rw [hfree j h']at hjd;cases hjd
  ·rcases Ee l (OG ts σ) j u (by unfold OG;rw [List.length_map];exact hlen) hj with⟨i,o,h1,h2,h3⟩|⟨h1,h2⟩
   ·unfold OG at h3
    rw [Ap]at h3
    cases hf:ts[i]? with
    |none=>rw [hf]at h3;simp at h3
    |some f=>
     rw [hf]at h3
     have e:f.at σ=u:=by simpa using h3
     rw [←e]
     exact h.new i o j f (hL2 i o h1) (hall i (oT.1 h1).1) h2 hf
   ·refine h.old j u h1 fun i o ho hdn=>?_
    rcases jM i l.length with h' |h'
    ·exact h2 o (qE (hL1 i o h' ho))
    ·rw [hfree i h']at hdn;cases hdn
 have lower: ∀done a w S σ c i,(∀j,l.length≤j→done.getD j false=false)→Q3 E G (l++t) ts Ss es done a w S σ c→i∈Region.ready .any (l++t).toArray done→l.length≤i→ ∀j,j<l.length→done.getD j false=true:=by
  intro done a w S σ c i hfree h hi hge j hj
  obtain⟨hun,p,hp,hwait⟩:=q8.1 hi
  have hp' :(l++t)[i]? =some p:=by simpa using hp
  have hcov:=(htail i p hge hp').1
  unfold uQ at hcov
  have hre:=mP.1 hcov j (by simp;omega)
  exact fC h.down _ i j (fun q hq e he hb=>by
   have:q=p:=by rw [hp']at hq;simpa using hq.symm
   subst this
   exact hwait e he hb) hre
 have hchain: ∀i j,j<i→es[i]? =some true→es[j]? =some true→lW (l++t) (l++t).length i j=true:=fun i j hij h1 h2=>by
  unfold Jv at hch
  have hil:i<es.length:=(oT.1 h1).1
  have:=mP.1 (mP.1 hch i (by simpa using hil)) j (by simpa using hij)
  rw [h1,h2]at this
  simpa using this
 intro fuel
 induction fuel with
 |zero=>
  intro done a w S σ c hu hfree hcle h
  exact fin 0 done a w S σ c hu hfree hcle h fun i hi=>si hu (by rw [h.dsz,jA];omega)
 |succ fuel ih=>
  intro done a w S σ c hu hfree hcle h
  by_cases hall: ∀i,i<l.length→done.getD i false=true
  ·exact fin _ done a w S σ c hu hfree hcle h hall
  have hready0: ∀m i,i<m→i<l.length→Region.ready .any (l++t).toArray done=[]→done.getD i false=true:=by
   intro m
   induction m with
   |zero=>intro i h;omega
   |succ m ihm=>
    intro i him hil hr
    have his:i<done.size:=by rw [h.dsz,jA];omega
    by_cases hdn:done.getD i true=true
    ·rw [←mK his];exact hdn
    ·exfalso
     obtain⟨o,ho⟩: ∃o,(l++t)[i]? =some o:=⟨l[i],hL2 i _ (pE hil)⟩
     have hmem:i∈Region.ready .any (l++t).toArray done:=by
      rw [q8]
      refine⟨by simpa using hdn,o,by simpa using ho,fun e he hb=>?_⟩
      have:=hedge i o ho
      unfold d7 at this
      have:=mP.1 this e (by simpa using he)
      simp only [hb,nT,u0,tk]at this
      exact ihm e.on (by omega) (by omega) hr
     rw [hr]at hmem;cases hmem
  refine⟨fun hr=>absurd (fun i hi=>hready0 (i+1) i (by omega) hi hr) hall,fun i hi=>?_⟩
  have hil:i<l.length:=by
   rcases jM i l.length with h' |h'
   ·exact h'
   ·exact absurd (lower done a w S σ c i hfree h hi h') hall
  obtain⟨hun,o,ho,hwait⟩:=q8.1 hi
  have ho' :(l++t)[i]? =some o:=by simpa using ho
  have hol:=hL1 i o hil ho'
  obtain⟨e,he,needs,u,h1,h2,h3,_,h4,h5⟩:=hget i o hol
  rw [o0]at h1 h3 h4
  have hF:=h.need ho' hun hwait h2 h3
  have his:i<done.size:=by rw [h.dsz,jA];omega
  have hun' :done.getD i false=false:=by rw [←mK his];exact hun
  have hu' :j7 (done.setIfInBounds i true)=fuel:=by have:=o9 hun;omega
  have huq: ∀d,o.dst=some d→ ∀j p,(l++t)[j]? =some p→done.getD j false=true→p.dst=some d→i=j:=fun d hdd j p hj hjd hpd=>by
   rcases jM j l.length with h' |h'
   ·exact hs2 i j o p d hol (hL1 j p h' hj) hdd hpd
   ·rw [hfree j h']at hjd;cases hjd
  have hfree' : ∀j,l.length≤j→(done.setIfInBounds i true).getD j false=false:=fun j hj=>by
   rw [tt false (by omega)];exact hfree j hj
  have hbl:E.base≤w.heap.size:=h.ext.size
  have hwaits: ∀q,(l++t)[i]? =some q→ ∀e∈q.after,Region.binds .any e=true→done.getD e.on false=true:=fun q hq e he hb=>by
   have:q=o:=by rw [ho']at hq;simpa using hq.symm
   subst this
   exact hwait e he hb
  have hdpp: ∀k∈u.1,k=i∨done.getD k false=true:=fun k hk=>by
   have:=mP.1 h4 k hk
   simp only [jD,u3]at this
   rcases this.2 with hb|hb
   ·exact .inl (mQ hb)
   ·exact .inr (fC h.down _ i k hwaits hb)
  have hdNN: ∀d,o.dst=some d→d<E.N.n:=fun d hd=>(hs1 o (qE hol) d hd).1
  unfold wpOpIn
  rw [ho]
  show if _ then _ else _
  cases e with
  |false=>
   simp only at h5
   obtain⟨hdS,lo,hi',hwin,h5⟩:=h5
   rw [o0]at hwin
   obtain⟨d,hdd⟩:=Option.isSome_iff_exists.1 hdS
   have hdN:=(hs1 o (qE hol) d hdd).1
   unfold Rw at hwin
   rw [jD]at hwin
   obtain⟨hw1,hw2⟩:=hwin
   have hw1' :=nW hw1
   have hwk: ∀k,es[k]? =some true→(Nat.ble lo (fm es k)=true∨lW (l++t) (l++t).length i k=true)∧(Nat.blt (fm es k) hi' =true∨lW (l++t) (l++t).length k i=true):=fun k hk=>by
    have hkl:k<es.length:=(oT.1 hk).1
    have:=mP.1 hw2 k (by simpa using hkl)
    rw [hk]at this
    simpa using this
   have hlo:lo≤c:=by
    rcases jM c lo with hlt|hge
    ·exfalso
     obtain⟨k,hk1,hk2,hk3⟩:=uR (es:=es) (c:=c) (k:=es.length) (by omega)
     rcases(hwk k hk2).1 with hb|hb
     ·have:=nW hb;omega
     ·have:=(h.chain k hk2).1 (fC h.down _ i k hwaits hb)
      omega
    ·exact hge
   have hhi:c≤hi' :=by
    rcases jM hi' c with hlt|hge
    ·exfalso
     obtain⟨k,hk1,hk2,hk3⟩:=uR (es:=es) (c:=hi') (k:=es.length) (by omega)
     rcases(hwk k hk2).2 with hb|hb
     ·simp only [tk]at hb;omega
     ·have hkd:done.getD k false=true:=(h.chain k hk2).2 (by omega)
      have:=fC h.down _ k i (fun q hq e he hb=>h.down k q hq hkd e he hb) hb
      rw [this]at hun';cases hun'
    ·exact hge
   have h6:=h5 c σ hlo hhi a w S h.sat h.own hF
   have hch' : ∀k,es[k]? =some true→((done.setIfInBounds i true).getD k false=true↔fm es k<c):=fun k hk=>by
    have hne:i≠k:=fun e=>by subst e;rw [he]at hk;cases hk
    rw [tt false hne];exact h.chain k hk
   by_cases hw:Region.wanted o (yielded (l++t).toArray a.tmps)=true
   ·rw [bm hw]at h6 ⊢
    refine jO (fun a' w' ⟨v,S',ha,hx,hs,hv⟩=>?_) h6
    subst ha
    exact ih _ _ _ S' _ c hu' hfree' hcle (h.step ho' hdNN huq hwait h1 hun hdpp hx (fun _ hb=>hb.elim) hs (h.own.ext0 hx) (fun _ _=>rfl) hv hch')
   ·rw [bg hw]at h6 ⊢
    exact⟨fun _ _=>trivial,ih _ _ _ S _ c hu' hfree' hcle (h.step ho' hdNN huq hwait h1 hun hdpp (fi nZ _ _) (fun _ hb=>hb.elim) h.sat h.own (fun _ _=>rfl) h6 hch')⟩
  |true=>
   simp only [o0]at h5
   -- it is the next one of the chain
   have hca:fm es i=c:=by
    have hn: ¬fm es i<c:=fun hlt=>by rw [(h.chain i he).2 hlt]at hun';cases hun'
    rcases jM c (fm es i)with hlt|hge
    ·exfalso
     obtain⟨k,hk1,hk2,hk3⟩:=uR hlt
     have hkd:done.getD k false=true:=fC h.down _ i k hwaits (hchain i k hk1 he hk2)
     have:=(h.chain k hk2).1 hkd
     omega
    ·omega
   subst hca
   have h6:=h5 σ a w S h.sat h.own hF hbl
   have hch' : ∀k,es[k]? =some true→((done.setIfInBounds i true).getD k false=true↔fm es k<fm es i+1):=fun k hk=>by
    by_cases hik:i=k
    ·subst hik
     constructor
     ·intro _;omega
     ·intro _;simp [his]
    ·rw [tt false hik,h.chain k hk]
     constructor
     ·intro h;omega
     ·intro hlt
      rcases jM i k with hlk|hlk
      ·have:=CK hlk he;omega
      ·exact CK (by omega) hk
   have hcle' :fm es i+1≤fm es es.length:=CK (by omega) he
   by_cases hw:Region.wanted o (yielded (l++t).toArray a.tmps)=true
   ·rw [bm hw]at h6 ⊢
    refine jO (fun a' w' ⟨v,S',x,ha,hx,hs,hown,hv⟩=>?_) h6
    subst ha
    exact ih _ _ _ S' _ _ hu' hfree' hcle' (h.step ho' hdNN huq hwait h1 hun hdpp hx (fun b ⟨f,hf,hb⟩=>(cI.mem h.own f hf).2 b hb) hs hown (fun k hk=>BU σ x hk) hv hch')
   ·rw [bg hw]at h6 ⊢
    obtain⟨x,hown,hv⟩:=h6
    exact⟨fun _ _=>trivial,ih _ _ _ S _ _ hu' hfree' hcle' (h.step ho' hdNN huq hwait h1 hun hdpp (fi nZ _ _) (fun _ hb=>hb.elim) h.sat hown (fun k hk=>BU σ x hk) hv hch')⟩
theorem j6{id:Nat}(m:Nat)(ts:List TS)(es:List Bool)(Ss:List ((Nat→OI)→List OE))(hO:Ss[0]? =some fun _=>O)(hm:E.P.follows .mixedOrders=true)(hsl:vq E.N.n [] (L.take m)=true)(hlen:ts.length=(L.take m).length)(hesl:es.length=(L.take m).length)(hch:Jv L es=true)(ht:wW L (L.take m).length (L.drop m).length=true)(hd:DS E G L ts Ss es 0 0 (L.take m) es)(k: ∀σ:Nat→OI,RG E L.toArray Q (L.drop m) (Ms Ss (fm es es.length) σ) (G4 (L.take m) (OG ts σ) G)):CG E Q (.region id L.toArray true) O G:=fun a w S st=>by
 have hL:L=L.take m++L.drop m:=(sS m L).symm
 generalize L.take m=l at hL hsl hlen hesl ht hd k
 generalize L.drop m=t at hL ht k
 subst hL
 refine wpIn_region_any hm ?_
 obtain⟨he,hs⟩:=wi (w:=w) st.sat
 have hO0:Ms Ss 0 (fun _=>o7)=O:=by unfold Ms;rw [hO]
 refine Gm hsl hlen hesl hd hch ht (fun a w S σ st=>k σ a w S st) _ _ _ _ S (fun _=>o7) 0 ?_ (fun j _=>?_) (gx _)
  ⟨st.ext.step0 he,hs,by rw [hO0];exact st.own.ext0 he,st.facts.size,st.facts.defers,by simp,fun j o hj hdone=>?_,fun k t hk _=>st.facts.at_ k t hk,fun j o d t hj hdone=>?_,fun j p hdone=>?_,fun k _=>⟨fun hdone=>?_,fun h=>(by omega)⟩⟩
 ·unfold j7;rw [JO,JM];simp
 ·simp [xk];split<;>rfl
 ·simp [xk]at hdone
  split at hdone<;>simp at hdone
 ·simp [xk]at hdone
  split at hdone<;>simp at hdone
 ·simp [xk]at hdone
  split at hdone<;>simp at hdone
 ·simp [xk]at hdone
  split at hdone<;>simp at hdone
theorem yo{p:Nat→(Nat→OI)→Prop}{lo:Nat}(h: ∀σ,p lo σ): ∀c σ,lo≤c→c≤lo→p c σ:=fun c σ h1 h2=>by
 have:c=lo:=by omega
 subst this;exact h σ
theorem EP{p:Nat→(Nat→OI)→Prop}{lo hi:Nat}(h: ∀σ,p lo σ)(k: ∀c σ,lo+1≤c→c≤hi→p c σ): ∀c σ,lo≤c→c≤hi→p c σ:=fun c σ h1 h2=>by
 by_cases e:c=lo
 ·subst e;exact h σ
 ·exact k c σ (by omega) h2
variable{post:OI→List OE}
theorem CE{op:Op}{ty:TypeId}(hnd: ∀c,op≠ .defer c)(h: ∀a w S,ii w S→cI E.base E.B w S O→cR E.N S a G→E.base≤w.heap.size→ ∃w' S' x,(execOp a.eval ⟨none,op,ty,pos,after,g⟩).run E.P w= .ok .skip w' ∧fN (xM O) w S w' S' ∧ii w' S' ∧cI E.base E.B w' S' (post x)):
  EffOK E O G ⟨none,op,ty,pos,after,g⟩ post (fun _=>zJ):=fun a w S hs ho hf hb=>by
 obtain⟨w',S',x,h1,h2,h3,h4⟩:=h a w S hs ho hf hb
 refine⟨hnd,?_⟩
 rw [h1]
 exact⟨undef,S',x,rfl,h2,h3,h4,trivial⟩

abbrev HL:=List (Nat×Value)
def sC:HL→Nat→Option Value
 |[],_=>none
 |p::hs,o=>bif Nat.beq p.1 o then some p.2 else sC hs o
theorem wF: ∀{hs:HL} {o:Nat} {v:Value},sC hs o=some v→(o,v)∈hs
 |[],_,_,h=>by cases h
 |p::hs,o,v,h=>by
  unfold sC at h
  by_cases hb:Nat.beq p.1 o=true
  ·rw [hb]at h
   have e1:=mQ hb
   have e2:p.2=v:=nV h
   subst e1 e2
   exact nm ..
  ·rw [yc]at hb
   rw [hb]at h
   exact nE _ (wF h)
def rH{α:Type}(r:Rp α)(hs:HL):Rp α where
 sz:=r.sz
 agg:=r.agg
 rc:=fun S cs x=>r.rc S cs x∧ ∀p∈hs,cs[p.1]? =some p.2
 mono:=fun h k=>⟨r.mono h k.1,k.2⟩
 len:=fun k=>r.len k.1
 one:=fun k=>r.one k.1
 sc:=r.sc
theorem LK{hs:HL}{get:α→β}(h:lV r off q get):lV (rH r hs) off q get:=fun S cs x k=>h S cs x k.1
theorem LX(h:cs[off]? =some v):(cs.drop off).take 1=[v]:=by
 have hlt:=(oT.1 h).1
 rw [pW hlt,(oT.1 h).2]
 rfl
theorem VK{hs:HL}(h:sC hs off=some v):lV (rH r hs) off rV (fun _=>v):=fun S cs x k=>by
 have h1:=k.2 _ (wF h)
 exact⟨LX h1,r.one k.1 v (qE h1)⟩
def HZ(z:List Value):HL→Prop
 |[]=>True
 |p::hs=>z[p.1]? =some p.2∧HZ z hs
theorem HZ.all: ∀{hs:HL},HZ z hs→ ∀p∈hs,z[p.1]? =some p.2
 |_::_,⟨h,_⟩,_,.head _=>h
 |_::_,⟨_,h⟩,_,.tail _ hm=>HZ.all h _ hm
theorem zH{x:α}{hs:HL}(h: ∀S,r.rc S z x)(k:HZ z hs): ∀S,(rH r hs).rc S z x:=fun S=>⟨h S,k.all⟩
def RR(hs:HL)(off sz:Nat):Bool:=hs.all fun p=>Nat.blt p.1 off||Nat.ble (off+sz) p.1
def Vl(hs:HL)(off sz:Nat)(v:Option Value):HL→Prop
 |[]=>True
 |p::l=>((v=some p.2∧p.1=off∧sz=1)∨(sC hs p.1=some p.2∧(Nat.blt p.1 off||Nat.ble (off+sz) p.1)=true))∧Vl hs off sz v l
theorem Vl.all{hs:HL}{v:Option Value}: ∀{l:HL},Vl hs off sz v l→ ∀p∈l,(v=some p.2∧p.1=off∧sz=1)∨(sC hs p.1=some p.2∧(Nat.blt p.1 off||Nat.ble (off+sz) p.1)=true)
 |_::_,⟨h,_⟩,_,.head _=>h
 |_::_,⟨_,h⟩,_,.tail _ hm=>Vl.all h _ hm
theorem AW{ds:List Value}(hl:ds.length=sz)(hoff:off+sz≤cs.length)(h:(Nat.blt k off||Nat.ble (off+sz) k)=true):(cs.take off++ds++cs.drop (off+sz))[k]? =cs[k]? :=by
 simp only [u3,tk,Nat.ble_eq]at h
 have ht:(cs.take off).length=off:=by simp;omega
 rcases h with h|h
 ·rw [t8 (by simp;omega),t8 (by omega),zE h]
 ·rw [o5 (by simp;omega),ve]
  congr 1
  simp only [jA,ht,hl];omega
theorem Oh{ds:List Value}(hd:ds=[v])(hoff:off+1≤cs.length):(cs.take off++ds++cs.drop (off+1))[off]? =some v:=by
 subst hd
 have ht:(cs.take off).length=off:=by simp;omega
 rw [t8 (by simp;omega),o5 (by omega),ht,tm]
 rfl
theorem MO{hs:HL}(h:fL r off q set)(hk:RR hs off q.sz=true)(hoff:Nat.ble (off+q.sz) r.sz=true):fL (rH r hs) off q set:=fun S cs x ds y h1 h2=>by
 refine⟨h S cs x ds y h1.1 h2,fun p hp=>?_⟩
 have hl:=r.len h1.1
 rw [AW (q.len h2) (by have:=nW hoff;omega) (mP.1 hk p hp)]
 exact h1.2 _ hp
section
section
variable{ty:TypeId}
theorem sN{op:Op}{t:OI→Ty}(h:EffOK E O G ⟨none,op,ty,pos,after,none⟩ post t)(k: ∀x,RG E ops Q rest (post x) G):RG E ops Q (⟨none,op,ty,pos,after,none⟩::rest) O G:= .of rfl fun a w S st=>
 mG (fun a' w' ⟨v,S',x,ha,hx,hs,ho,hv⟩=>by
  subst ha
  exact k x _ _ S' ⟨st.ext.step hx fun b ⟨f,hf,hb⟩=>(cI.mem st.own f hf).2 b hb,hs,ho,st.facts.mono hx.keep⟩) (h a w S st.sat st.own st.facts st.base_le)
theorem ln{γ:Type}{r' :Rp γ}{x:α}{x' :γ}{p v:Operand}(ti:TI E.P U sz bytes agg z)(hsz:q.sz=sz)(hset:rG r r' off q x y x')(hoff:Nat.ble (off+q.sz) r.sz=true)(hp:aK E.N G p (tV (aE b off)))(hv:aK E.N G v (tD q y)):EffOK E (bx r T b x::O) G ⟨none,.store U p v,ty,pos,after,g⟩ (fun _=>bx r' T b x' ::O) (fun _=>zJ):=CE (fun _ h=>(by cases h)) fun a w S hs ho hf hb=>by
 have h1:a.eval p=aE b off:=hp S a hf
 obtain⟨ds,h2,h3⟩:=hv S a hf
 obtain⟨⟨hno,cur,h5,h6⟩,_⟩:=ho.1
 have hl:=r.len h6
 have hoff' :=nW hoff
 obtain⟨w',hr,e1,e2,e3,e4,e5,e6⟩:=jF ti hsz h3 h5 (off:=off) (by simp at hl;omega)
 have hrun:(execOp a.eval ⟨none,.store U p v,ty,pos,after,g⟩).run E.P w= .ok .skip w' :=by
  simp [execOp,h1,h2,Instr.storeAt,aE,Instr.sureAddr,hr]
 obtain⟨g1,g2,g3⟩:=pp (O:=O) hs (bx r T b x) (bx r' T b x') ho (fun _=>Iff.rfl) (fun _=>Iff.rfl) ⟨e1,e2,e3,e4.1,e4.2⟩ e6 ⟨hno,_,e5,by simpa using hset S _ _ h6 h3⟩ hno
 exact⟨w',S,o7,hrun,g1.more fun k hk=>⟨_,nm ..,hk⟩,g2,g3⟩
theorem rF{hs hs' :HL}{x:α}{p v:Operand}(ti:TI E.P U 1 bytes false z)(hsz:q.sz=1)(hag:q.agg=false)(hset:fL r off q set)(hoff:Nat.ble (off+1) r.sz=true)(hk:Vl hs off 1 (some u) hs')(hp:aK E.N G p (tV (aE b off)))(hv:aK E.N G v (tD q y))(hu:aK E.N G v (tV u)):EffOK E (bx (rH r hs) T b x::O) G ⟨none,.store U p v,ty,pos,after,g⟩ (fun _=>bx (rH r hs') T b (set x y)::O) (fun _=>zJ):=CE (fun _ h=>(by cases h)) fun a w S hsat ho hf hb=>by
 have h1:a.eval p=aE b off:=hp S a hf
 obtain⟨ds,h2,h3⟩:=hv S a hf
 have hu' :a.eval v=u:=hu S a hf
 obtain⟨⟨hno,cur,h5,h6⟩,_⟩:=ho.1
 have hl:=r.len h6.1
 have hoff' :=nW hoff
 have hdl:=q.len h3
 have hds:ds=[u]:=by
  obtain⟨d,hd⟩:=List.length_eq_one_iff.1 (by rw [hdl,hsz]:ds.length=1)
  subst hd
  have e1:q.val [d]=d:=by simp [Rp.val,hag]
  rw [h2,e1]at hu'
  rw [hu']
 obtain⟨w',hr,e1,e2,e3,e4,e5,e6⟩:=jF ti hsz h3 h5 (off:=off) (by simp at hl;omega)
 have hrun:(execOp a.eval ⟨none,.store U p v,ty,pos,after,g⟩).run E.P w= .ok .skip w' :=by
  simp [execOp,h1,h2,Instr.storeAt,aE,Instr.sureAddr,hr]
 rw [hsz]at e5
 have hnew:(rH r hs').rc S (cur.toList.take off++ds++cur.toList.drop (off+1)) (set x y):=by
  have h7:=hset S _ _ _ _ h6.1 h3
  rw [hsz]at h7
  refine⟨h7,fun p hp=>?_⟩
  rcases hk.all p hp with⟨f1,f2,_⟩|⟨f1,f2⟩
  ·rw [f2]
   exact Oh (by rw [hds,nV f1]) (by omega)
  ·rw [AW (by rw [hdl,hsz]) (by omega) f2]
   exact h6.2 _ (wF f1)
 obtain⟨g1,g2,g3⟩:=pp (O:=O) hsat (bx (rH r hs) T b x) (bx (rH r hs') T b (set x y)) ho (fun _=>Iff.rfl) (fun _=>Iff.rfl) ⟨e1,e2,e3,e4.1,e4.2⟩ e6 ⟨hno,_,e5,by simpa using hnew⟩ hno
 exact⟨w',S,o7,hrun,g1.more fun k hk=>⟨_,nm ..,hk⟩,g2,g3⟩
end
section
variable{ty:TypeId}
theorem Ng{hs:HL}{x:α}{p:Operand}(ti:TI E.P U 1 bytes false z)(hk:sC hs off=some u)(hm:bx (rH r hs) T b x∈O)(hp:aK E.N G p (tV (aE b off))):
  bW E O G ⟨dst,.load U p,ty,pos,after,g⟩ (tV u):=(aX (q:=rV) ti rfl rfl (VK hk) hm hp).imp fun _ _ h=>(ue.1 h).1
theorem dL{q:Rp α}{r:Rp β}{hs:HL}{x:β}{V:TypeId}{p:Operand}{l:Option Nat}(ti:TI E.P U 1 bytes false z)(hk:sC hs off=some (aD l cap xs.length))(hm:bx (rH r hs) T b x∈O)(hm2:cv q V l cap xs∈O)(hp:aK E.N G p (tV (aE b off))):
  bW E O G ⟨dst,.load U p,ty,pos,after,g⟩ (tO q l cap xs):=fun a w S hs' ho hf=>
 mG (fun _ _ ⟨v,S',h1,h2,h3,h4⟩=>⟨v,S',h1,h2,h3,h4,by
  have h5:v=aD l cap xs.length:=h4
  rw [h5]
  exact oh (((ho.ext0 h2).mem _ hm2).1)⟩) (Ng (g:=g) (ty:=ty) (pos:=pos) (after:=after) (dst:=dst) ti hk hm hp a w S hs' ho hf)
theorem Pe{t:Ty}(h1: ∀S v,t.p S v→v.oneCell' =true)(hx:aK E.N G x t):bW E O G ⟨dst,.box T x,ty,pos,after,g⟩ (bw (rT t) ()):=
 I0 (fun S a hf=>Vu.2 ⟨h1 _ _ (hx S a hf),hx S a hf⟩)
end
def OT:HL→HL→Prop
 |[],_=>True
 |p::l,hs=>sC hs p.1=some p.2∧OT l hs
theorem OT.all{hs:HL}: ∀{l:HL},OT l hs→ ∀p∈l,p∈hs
 |_::_,⟨h,_⟩,_,.head _=>wF h
 |_::_,⟨_,h⟩,_,.tail _ hm=>OT.all h _ hm
end

variable{O' :List OE}
theorem EffOK.perm{t:OI→Ty}(h:EffOK E O' G o post t)(k: ∀{w S},cI E.base E.B w S O→cI E.base E.B w S O')(m: ∀f∈O',f∈O):EffOK E O G o post t:=fun a w S hs ho hf hb=>
 mG (fun _ _ ⟨v,S',x,h1,h2,h3,h4,h5⟩=>⟨v,S',x,h1,h2.more fun _ ⟨f,hf,hk⟩=>⟨f,m f hf,hk⟩,h3,h4,h5⟩) (h a w S hs (k ho) hf hb)
variable{x0 x5:OE}
namespace EffOK
section
variable{t:OI→Ty}
theorem fr1(h:EffOK E (x1::x0::O) G o post t):EffOK E (x0::x1::O) G o post t:=h.perm (fun hw=>cI.swap hw) (fun f hf=>by simp only [gz]at hf ⊢;rcases hf with h|h|h<;>simp [h])
theorem fr2(h:EffOK E (x2::x0::x1::O) G o post t):EffOK E (x0::x1::x2::O) G o post t:=h.perm (fun hw=>rO hw) (fun f hf=>by simp only [gz]at hf ⊢;rcases hf with h|h|h|h<;>simp [h])
theorem fr3(h:EffOK E (x3::x0::x1::x2::O) G o post t):EffOK E (x0::x1::x2::x3::O) G o post t:=h.perm (fun hw=>rN hw) (fun f hf=>by simp only [gz]at hf ⊢;rcases hf with h|h|h|h|h<;>simp [h])
theorem fr4(h:EffOK E (x4::x0::x1::x2::x3::O) G o post t):EffOK E (x0::x1::x2::x3::x4::O) G o post t:=h.perm (fun hw=>rM hw) (fun f hf=>by simp only [gz]at hf ⊢;rcases hf with h|h|h|h|h|h<;>simp [h])
theorem fr5(h:EffOK E (x5::x0::x1::x2::x3::x4::O) G o post t):EffOK E (x0::x1::x2::x3::x4::x5::O) G o post t:=h.perm (fun hw=>rK hw) (fun f hf=>by simp only [gz]at hf ⊢;rcases hf with h|h|h|h|h|h|h<;>simp [h])
theorem fr6{x6:OE}(h:EffOK E (x6::x0::x1::x2::x3::x4::x5::O) G o post t):EffOK E (x0::x1::x2::x3::x4::x5::x6::O) G o post t:=h.perm (fun hw=>uT hw) (fun f hf=>by simp only [gz]at hf ⊢;rcases hf with h|h|h|h|h|h|h|h<;>simp [h])
theorem fr7{x6 x7:OE}(h:EffOK E (x7::x0::x1::x2::x3::x4::x5::x6::O) G o post t):EffOK E (x0::x1::x2::x3::x4::x5::x6::x7::O) G o post t:=h.perm (fun hw=>uS hw) (fun f hf=>by simp only [gz]at hf ⊢;rcases hf with h|h|h|h|h|h|h|h|h<;>simp [h])
theorem post_imp{post' :OI→List OE}(h:EffOK E O G o post t)(k: ∀{w S x},cI E.base E.B w S (post x)→cI E.base E.B w S (post' x)):EffOK E O G o post' t:=fun a w S hs ho hf hb=>
 mG (fun _ _ ⟨v,S',x,h1,h2,h3,h4,h5⟩=>⟨v,S',x,h1,h2,h3,k h4,h5⟩) (h a w S hs ho hf hb)
end
end EffOK
variable{ats:Array TypeId}{mm:Bool}
section
variable{ty:TypeId}
theorem Jp{zs:List α}{y v:α}{i:Int}{p:Operand}(ti:TI E.P U sz bytes agg z)(hsz:r.sz=sz)(hy:cK xs i=some y)(hz:xs.set i.toNat v=zs)(hp:aK E.N G p (tV (aE b (i.toNat*r.sz))))(hv:aK E.N G x (tD r v)):EffOK E (bx (s5 r n) T b xs::O) G ⟨none,.store U p x,ty,pos,after,g⟩ (fun _=>bx (s5 r n) T b zs::O) (fun _=>zJ):=CE (fun _ h=>(by cases h)) fun a w S hsat hown hf hbase=>by
 subst hz
 have h1:a.eval p=aE b (i.toNat*r.sz):=hp S a hf
 obtain⟨ds,h2,h3⟩:=hv S a hf
 obtain⟨⟨hno,cur,h5,h6⟩,_⟩:=hown.1
 obtain⟨h0,hy'⟩:=jZ hy
 have hlt:i.toNat<xs.length:=(oT.1 hy').1
 have hl:=nh h6.2
 simp only [BK]at hl
 have hmul:i.toNat*r.sz+r.sz≤xs.length*r.sz:=by rw [←Nat.succ_mul];exact A5 _ hlt
 obtain⟨w',hr,e1,e2,e3,e4,e5,e6⟩:=jF ti hsz h3 h5 (off:=i.toNat*r.sz) (by omega)
 have hrun:(execOp a.eval ⟨none,.store U p x,ty,pos,after,g⟩).run E.P w= .ok .skip w' :=by
  simp [execOp,h1,h2,Instr.storeAt,aE,Instr.sureAddr,hr]
 obtain⟨g1,g2,g3⟩:=pp (O:=O) hsat (bx (s5 r n) T b xs) (bx (s5 r n) T b (xs.set i.toNat v)) hown (fun _=>Iff.rfl) (fun _=>Iff.rfl) ⟨e1,e2,e3,e4.1,e4.2⟩ e6 ⟨hno,_,e5,by rw [List.length_set];exact h6.1,E8 h3 h6.2 hlt⟩ hno
 exact⟨w',S,o7,hrun,g1.more fun c hc=>⟨_,nm ..,hc⟩,g2,g3⟩

section
theorem gI{x:α}(ti:TI E.P T sz bytes agg z)(hx: ∀S,r.rc S z x):
  EffOK E O G ⟨some d,.alloc T,ty,pos,after,g⟩ (fun i=>bx r T (i.h 0).2 x::O) (fun i=>tV (aE (i.h 0).2 0)):=fun a w S hs ho hf hb=>by
 obtain⟨zv,hzr,hzc⟩:=ti.zero w
 obtain⟨he,hs',hno⟩:=eJ (w:=w) (.cells z.toArray T (0,0)) hs
 have hrun:(execOp a.eval ⟨some d,.alloc T,ty,pos,after,g⟩).run E.P w= .ok (.value (aE w.heap.size 0)) (w.alloc (.cells z.toArray T (0,0))):=by
  simp [execOp,Instr.alloc,hzr,newVar,newRow,hzc,aE]
 refine⟨fun c h=>(by cases h),?_⟩
 rw [hrun]
 exact⟨_,S,oi none w.heap.size,rfl,he.more fun _ hb=>hb.elim,hs',oD ho he (e:=bx r T w.heap.size x) ⟨hno,z.toArray,BE w _,by simpa using hx S⟩ (fun b hb=>yh hb.symm) hb,rfl⟩
theorem Et{xs:List Operand}(hc:ak E.P f=true)(hs:ja E.P f ts false r T ys)(hx:iW E.N G xs ts):
  EffOK E O G ⟨some d,.call ⟨.value (.func f),xs.toArray,ats⟩,ty,pos,after,g⟩ (fun i=>gu r T (i.h 0).1 (i.h 0).2 ys::O) (fun i=>tV (aD (i.h 0).1 (i.h 0).2 ys.length)):=LR (mm:=false) hc hs hx (fun _ _ _ _ _=>rfl)
end
section
theorem fj{l:Option Nat}{o i:Nat}{y:α}{j:Int}{p:Operand}(hf:ci E.P T i=some (off,sz))(h0:Nat.beq sz 0=false)(hm:kR mm r U l cap xs∈O)(hy:cK xs j=some y)(hp:aK E.N G p (tV (mb l o)))(he:o+off=n):
  bW E O G ⟨dst,.fieldAddr T p i,ty,pos,after,g⟩ (tV (mb l n)):=by
 subst he
 exact Df hf h0 hm hy hp
theorem dD(hx:aK E.N G x (tV (aE b off))):bW E O G ⟨dst,.nilCheck x,ty,pos,after,g⟩ (tV (aE b off)):= .of_pure fun a w S _ _ hf=>by
 have h1:a.eval x=aE b off:=hx S a hf
 exact⟨aE b off,by simp [execOp,h1,aE],rfl⟩
theorem Fg{y:α}(hx:aK E.N G x (bw r y)):bW E O G ⟨dst,.nilCheck x,ty,pos,after,g⟩ (bw r y):= .of_pure fun a w S _ _ hf=>by
 have h0:=hx S a hf
 obtain⟨b,off,c,U,fr,h1,h2,h3⟩:=h0
 exact⟨_,by simp [execOp,h1],b,off,c,U,fr,rfl,h2,h3⟩
theorem rr{p:Operand}(ti:TI E.P U 1 bytes false z)(hm:bx rV T b u∈O)(hp:aK E.N G p (tV (aE b 0))):
  bW E O G ⟨dst,.load U p,ty,pos,after,g⟩ (tV u):=(aX (q:=rV) (get:=fun x=>x) ti rfl rfl bq hm hp).imp fun _ _ h=>(ue.1 h).1
theorem jU{t:Ty}{p:Operand}(ti:TI E.P U 1 bytes false z)(hp:aK E.N G p (bw (rT t) ())):bW E O G ⟨dst,.load U p,ty,pos,after,g⟩ t:=yL ti hp
end
theorem zp(h:O=O')(k:RG E ops Q rest O' G):RG E ops Q rest O G:=by subst h;exact k
theorem OD(h:O=O')(k:AT E Q e O' G):AT E Q e O G:=by subst h;exact k
theorem hW{N:Fr}(h:aK N G x (tV u))(ho:u.oneCell' =true):aK N G x (tD rV u):=fun S a hf=>ue.2 ⟨h S a hf,ho⟩
end

theorem Gu{l:Option Nat}{t' e' :TypeId}(ht:P.underlying t' =some (.slice e'))(h:Bm mm r U l cap xs w S)(hs:d6 xs lo (xs.length:Int)=some ys):
  ∃news,Src P r.sz t' (md r.sz l cap lo.toNat ys.length) ys.length news w∧tH r S news ys:=by
 obtain⟨cells,h1,h2,_⟩:=h
 obtain⟨lo',m,rfl,hm,h3,h4,rfl⟩:=gm hs
 have hm' :m=xs.length:=by omega
 subst hm'
 rw [yj,wN]
 cases l with
 |none=>
  have hx:xs=[]:=tp h1.1
  subst hx
  exact⟨[],by simpa [md] using Src.ofNil w ht 0,by simp [tH]⟩
 |some b=>
  obtain⟨cur,g1,g2,g3,g4,g5⟩:=h1
  have hlen:(xs.drop lo').length=xs.length-lo' :=by simp
  have hcl:=nh h2
  have hsp:xs=xs.take lo' ++xs.drop lo' :=(sS lo' xs).symm
  have htl:(xs.take lo').length=lo' :=by simp;omega
  have hr:tH r S (cells.drop (lo' *r.sz)) (xs.drop lo'):=by
   rw [hsp]at h2
   have:=(pm h2).2
   rwa [htl]at this
  have hmul:lo' *r.sz≤xs.length*r.sz:=A5 _ h3
  refine⟨cells.drop (lo' *r.sz),?_,hr⟩
  unfold md
  refine Src.ofSlice w ht _ _ _ _ (nh hr) (fun j u hu=>?_) (Br hr)
  by_cases hc:cap=lo'
  ·have:xs.drop lo' =[]:=sT (by omega)
   rw [this]at hr
   have hr' :cells.drop (lo' *r.sz)=[]:=hr
   rw [hr']at hu;simp at hu
  ·simp only [hc,iM]
   rw [ig,zi g1]
   rw [ve,←g5]at hu
   have hj:lo' *r.sz+j<xs.length*r.sz:=by
    have:=(oT.1 hu).1
    simp at this;omega
   rw [zE hj]at hu
   simpa using hu
section
variable{ty:TypeId}
theorem Mf{l:Option Nat}{yt e:TypeId}(ht:E.P.underlying t=some (.slice e))(hm:kR mm r U l cap xs∈O)(hs:d6 xs lo (xs.length:Int)=some ys)(hx:aK E.N G x (tV (md r.sz l cap lo.toNat ys.length)))(hd:Nat.blt d E.N.n=true)(k: ∀b,(b=true→ys=[])→RG E ops Q rest O ((d,tD rB b)::G)):RG E ops Q (⟨some d,.binOp .eql t x (.const (.slice none 0 0)) yt,ty,pos,after,none⟩::rest) O G:= .of rfl fun a w S st=>by
 have h1:a.eval x=md r.sz l cap lo.toNat ys.length:=hx S a st.facts
 obtain⟨⟨cells,hraw,_⟩,_⟩:=st.own.mem _ hm
 have hcn:a.eval (.const (.slice none 0 0))= .slice none 0 0:=rfl
 cases l with
 |none=>
  have hx0:xs=[]:=tp hraw.1
  have hy0:ys=[]:=by
   obtain⟨lo',m,_,_,_,_,rfl⟩:=gm hs
   subst hx0;simp
  have h3:(Op.equal t (.slice none 0 0) (.slice none 0 0)).run E.P w= .ok true w:=E5 fun d=>by
   simp [Op.equalIn,iN ht]
  have hrun:(execOp a.eval ⟨some d,.binOp .eql t x (.const (.slice none 0 0)) yt,ty,pos,after,none⟩).run E.P w= .ok (.value (.bool true)) w:=by
   simp [execOp,h1,md,hcn,eqGuard,binOp,h3]
  refine⟨fun c h=>(by cases h),?_⟩
  rw [hrun]
  exact k true (fun _=>hy0) _ _ S (st.step (fi _ _ _) st.sat hd (iP.2 rfl))
 |some b=>
  obtain⟨ad,hv⟩: ∃ad,md r.sz (some b) cap lo.toNat ys.length= .slice (some ad) ys.length (cap-lo.toNat):=⟨_,rfl⟩
  have h3:(Op.equal t (.slice (some ad) ys.length (cap-lo.toNat)) (.slice none 0 0)).run E.P w= .ok false w:=E5 fun d=>by
   simp [Op.equalIn,iN ht]
  have hrun:(execOp a.eval ⟨some d,.binOp .eql t x (.const (.slice none 0 0)) yt,ty,pos,after,none⟩).run E.P w= .ok (.value (.bool false)) w:=by
   simp [execOp,h1,hv,hcn,eqGuard,binOp,h3]
  refine⟨fun c h=>(by cases h),?_⟩
  rw [hrun]
  exact k false (fun e=>(by cases e)) _ _ S (st.step (fi _ _ _) st.sat hd (iP.2 rfl))
theorem JD{t' :TypeId}{l l2:Option Nat}{cap2:Nat}{zs us:List α}{y:Operand}(ti:TI E.P T sz bytes agg z)(hsz:r.sz=sz)(hz:Nat.beq z.length sz=true)(h0:Nat.blt 0 sz=true)(h128:Nat.ble bytes 2048=true)(ht:E.P.underlying t=some (.slice T))(ht' :t' =t)(hd:Nat.blt d E.N.n=true)(hx:aK E.N G x (tV (aD l cap n)))(hm:kR mm r U l2 cap2 us∈gu r T l cap xs::O)(hs:d6 us lo (us.length:Int)=some ys)(hy:aK E.N G y (tV (md r.sz l2 cap2 lo.toNat ys.length)))(happ:iC xs ys=some zs)(k: ∀l' cap',RG E ops Q rest (gu r T l' cap' zs::O) ((d,tV (aD l' cap' zs.length))::G))(hn:n=xs.length:=by rfl):
  RG E ops Q (⟨some d,.call ⟨.builtin .append,#[x,y],#[t,t']⟩,ty,pos,after,none⟩::rest) (gu r T l cap xs::O) G:=by
 subst ht'
 exact xU (u:=fun cap' l' =>tV (aD l' cap' zs.length)) ti hsz hz h0 h128 ht hd hx (fun a w S st=>by
  have h1:a.eval y=md r.sz l2 cap2 lo.toNat ys.length:=hy S a st.facts
  rw [h1]
  exact Gu ht (st.own.mem _ hm).1 hs) happ (fun _ _ _ _ _=>rfl) k hn
end

abbrev KN(α X:Type):=(σ:Type)→(α→σ→Option (Bool×σ))→σ→Option (σ×X)
def KO(P:Program){α X:Type}(args:α→List Ty)(it:KN α X)(Ob:X→OI→List OE)(fid:FuncId)(cap:Array Value)(fp:Nat→Prop)(w:World)(S:SH):Prop:=
 ∀(σ:Type) (y:α→σ→Option (Bool×σ)) (s:σ) (R:σ×X),it σ y s=some R→ ∀I yv,SV P args y I yv→ ∀e,I s e→e.p w S→(∀k,e.fp k→ ¬fp k)→
  Calls P fid (#[yv]++cap) w fun en w' => ∃e' S' j,(∃v,en= .returned v)∧I R.1 e' ∧fN (fun k=>e.fp k∨fp k) w S w' S' ∧ii w' S' ∧e'.p w' S' ∧cI 0 nZ w' S' (Ob R.2 j)∧(∀k,e'.fp k∨xM (Ob R.2 j) k→(e.fp k∨fp k)∨w.heap.size≤k)∧ ∀k,e'.fp k→ ¬xM (Ob R.2 j) k
def Fm(P:Program){α X:Type}(args:α→List Ty)(it:KN α X)(Ob:X→OI→List OE)(v:Value)(fp:Nat→Prop):OE where
 fp:=fp
 p:=fun w S=>(∀k,fp k→k<w.heap.size)∧ ∃fid cap,v= .func (.func fid) #[] cap∧ak P fid=true∧
  ∀C w' S',fN C w S w' S' →(∀k,fp k→ ¬C k)→ii w' S' →KO P args it Ob fid cap fp w' S'
 here:=fun h k hk=>h.1 k hk
 kept:=by
  rintro C w w' S S' ⟨h1,fid,cap,h2,h3,h4⟩ k hC
  refine⟨fun b hb=>u4 (h1 b hb) k.size,fid,cap,h2,h3,fun C' w'' S'' k' hC' hs=>?_⟩;exact h4 (fun b=>C b∨C' b) w'' S'' ((k.more fun b hb=> .inl hb).trans (k'.more fun b hb=> .inr hb)) (fun b hb h=>h.elim (hC b hb) (hC' b hb)) hs
def Tz:Unit→OI→List OE:=fun _ _=>[]
def itU{α:Type}(it:It α):KN α Unit:=fun σ y s=>(it σ y s).map fun r=>(r,())
variable{args:α→List Ty}{s:gV}
theorem TD{it:It α}(h:(QI P args it v fp).p w S):(Fm P args (itU it) Tz v fp).p w S:=by
 obtain⟨h1,fid,cap,h2,h3,h4⟩:=h
 refine⟨h1,fid,cap,h2,h3,fun C w' S' k hC hs σ y s R hit I yv hy e he hep hap=>?_⟩
 unfold itU at hit
 cases hq:it σ y s with
 |none=>rw [hq]at hit;cases hit
 |some s' =>
  rw [hq]at hit
  obtain rfl:(s',())=R:=by simpa using hit
  refine(h4 C w' S' k hC hs σ y s s' hq I yv hy e he hep hap).mono ?_
  rintro en w2 ⟨e',S2,g1,g2,g3,g4,g5,g6⟩
  exact⟨e',S2,o7,g1,g2,g3,g4,g5,trivial,fun k hk=>hk.elim (fun h=>(g6 k h).imp .inl id) (fun⟨_,h,_⟩=>by cases h),fun k _ ⟨_,h,_⟩=>by cases h⟩
section
variable{it:It α}
theorem SX(h:CG E Q c (Fm P args (itU it) Tz v fp::O) G):CG E Q c (QI P args it v fp::O) G:=fun a w S st=>h a w S (st.own_map fun⟨⟨g1,g2⟩,g3,g4⟩=>⟨⟨TD g1,g2⟩,g3,g4⟩)
end

def zq(P:Program)(fid:FuncId){α X:Type}(args:α→List Ty)(it:KN α X)(Ob:X→OI→List OE)(O:List OE)(cts:List Ty):Prop:=
 ∀w S cap,ii w S→cI 0 nZ w S O→u9 S cts cap→KO P args it Ob fid cap.toArray (xM O) w S
def N8(E:En){σ X:Type}(I:σ→OE→Prop)(R:σ×X)(Ob:X→OI→List OE):Ending→World→Prop:=fun en w' => ∃e' S' j,(∃v,en= .returned v)∧I R.1 e' ∧fN E.B E.w0 E.S0 w' S' ∧ii w' S' ∧e'.p w' S' ∧cI 0 nZ w' S' (Ob R.2 j)∧(∀k,e'.fp k∨xM (Ob R.2 j) k→E.B k∨E.w0.heap.size≤k)∧ ∀k,e'.fp k→ ¬xM (Ob R.2 j) k
variable{Ob:X→OI→List OE}
theorem zq.of{it:KN α X}{cts:List Ty}(hf:P.funcs[f]? =some fn)(hb:fn.body=some c)(hN:fn.ntmps=N)(hn:Nat.ble (cts.length+1) N=true)(h: ∀(σ:Type) (y:α→σ→Option (Bool×σ)) (s:σ) (R:σ×X),it σ y s=some R→ ∀I yv,SV P args y I yv→ ∀e,I s e→ ∀w0 S0 B,(∀k,B k→e.fp k∨ ∃f∈O,f.fp k)→
   CG ⟨P,⟨N,[]⟩,B,w0,S0,none⟩ (bodyPost P fn (N8 ⟨P,⟨N,[]⟩,B,w0,S0,none⟩ I R Ob)) c (e::O) (sy 0 (tV yv::cts))):zq P f args it Ob O cts:=by
 subst hN
 intro w S cap hs ho hc σ y s R hit I yv hy e he hep hap
 have hown:cI w.heap.size (fun k=>e.fp k∨ ∃f∈O,f.fp k) w S (e::O):=
  ⟨⟨hep,fun k hk=> .inr (.inl hk)⟩,fun f hf b hb hfb=>hap b hb ⟨f,hf,hfb⟩,jJ ho fun f hf k hk=> .inr (.inr ⟨f,hf,hk⟩)⟩
 have hfacts:=mu (S:=S) (ts:=tV yv::cts) (vs:=yv::cap) ⟨rfl,hc⟩ fn.ntmps (by simpa using nW hn)
 have:=jx.1 (BI (F:=fw none) (n:=0) hf hb trivial (h σ y s R hit I yv hy e he w S (fun k=>e.fp k∨ ∃f∈O,f.fp k) (fun _ h=>h) _ w S ⟨fi _ _ _,hs,hown,hfacts⟩))
 rw [show(#[yv]++cap.toArray:Array Value)=(yv::cap).toArray from by simp]
 exact this.mono fun en w' ⟨e',S',j,h1,h2,h3,h4,h5,h6,h7,h8⟩=>⟨e',S',j,h1,h2,h3,h4,h5,h6,h7,h8⟩
theorem H6{I:σ→OE→Prop}{R:σ×X}{e:OE}(hr:fn.results= #[])(he:I R.1 e)(j:OI)(hO:O=Ob R.2 j):
  AT ⟨P,⟨N,[]⟩,B,w0,S0,none⟩ (bodyPost P fn (N8 ⟨P,⟨N,[]⟩,B,w0,S0,none⟩ I R Ob)) .ret (e::O) G:=fun _ _ S st=>by
 subst hO
 refine⟨st.facts.defers,_,tE P fn hr _ _,e,S,j,⟨_,rfl⟩,he,st.ext,st.sat,st.own.1.1,st.own.2.2.weak,fun k hk=>?_,fun k hk ⟨f,hf,hfk⟩=>st.own.2.1 f hf k hk hfk⟩
 rcases hk with hk|⟨f,hf,hk⟩
 ·exact(st.own.1.2 k hk).symm
 ·exact((cI.mem st.own.2.2 f hf).2 k hk).symm
theorem Mq{I:σ→OE→Prop}{R:σ×X}{e:OE}(hr:fn.results= #[])(he:I R.1 e)(j:OI)(hO:O=Ob R.2 j):
  AT ⟨P,⟨N,[]⟩,B,w0,S0,none⟩ (bodyPost P fn (N8 ⟨P,⟨N,[]⟩,B,w0,S0,none⟩ I R Ob)) .normal (e::O) G:=fun a w S st=>H6 hr he j hO a w S st
def zm(P:Program)(f:FuncId)(ts:List Ty)(O1:List OE){α X:Type}(args:α→List Ty)(it:KN α X)(Ob:X→OI→List OE):Prop:=
 ∀w S vs,ii w S→u9 S ts vs→cI 0 nZ w S O1→Calls P f vs.toArray w fun e w' => ∃v fp S',e= .returned v∧fN (xM O1) w S w' S' ∧ii w' S' ∧(Fm P args it Ob v fp).p w' S' ∧ ∀k,fp k→xM O1 k∨w.heap.size≤k
def N7(E:En)(O1:List OE){α X:Type}(args:α→List Ty)(it:KN α X)(Ob:X→OI→List OE):Ending→World→Prop:=fun e w' => ∃v fp S',e= .returned v∧fN E.B E.w0 E.S0 w' S' ∧ii w' S' ∧(Fm E.P args it Ob v fp).p w' S' ∧ ∀k,fp k→xM O1 k∨E.w0.heap.size≤k
variable{O1:List OE}
theorem zm.of{it:KN α X}(hf:P.funcs[f]? =some fn)(hb:fn.body=some c)(hN:fn.ntmps=N)(hn:Nat.ble ts.length N=true)(h: ∀w0 S0,CG ⟨P,⟨N,[]⟩,xM O1,w0,S0,none⟩ (bodyPost P fn (N7 ⟨P,⟨N,[]⟩,xM O1,w0,S0,none⟩ O1 args it Ob)) c O1 (sy 0 ts)):zm P f ts O1 args it Ob:=by
 subst hN
 intro w S vs hs hv ho
 exact jx.1 (BI (F:=fw none) (n:=0) hf hb trivial (h w S _ w S ⟨fi _ _ _,hs,jJ ho fun f hf k hk=> .inr ⟨f,hf,hk⟩,mu hv _ (nW hn)⟩))
theorem Mp{it:KN α X}(hr:fn.results= #[.tmp k])(hk:look G k=some (tV v)):
  AT ⟨P,⟨N,[]⟩,xM O1,w0,S0,none⟩ (bodyPost P fn (N7 ⟨P,⟨N,[]⟩,xM O1,w0,S0,none⟩ O1 args it Ob)) .ret (Fm P args it Ob v fp::O) G:=fun a w S st=>by
 have hv:a.tmps.getD k undef=v:=st.facts.at_ k _ hk
 exact⟨st.facts.defers,_,lA P fn k hr _ _,v,fp,S,by rw [hv],st.ext,st.sat,st.own.1.1,fun k hk=>(st.own.1.2 k hk).symm⟩
section
variable{ty:TypeId}
theorem JC{xs:List Operand}(O1 Or:List OE){it:KN α X}(hO:O=O1++Or)(hc:ak E.P f=true)(hs:zm E.P f ts O1 args it Ob)(hx:iW E.N G xs ts)(hd:Nat.blt d E.N.n=true)(k: ∀v fp,RG E ops Q rest (Fm E.P args it Ob v fp::Or) ((d,tV v)::G)):
  RG E ops Q (⟨some d,.call ⟨.value (.func f),xs.toArray,ats⟩,ty,pos,after,none⟩::rest) O G:= .of rfl fun a w S st=>by
 subst hO
 have hr:(execOp a.eval ⟨some d,.call ⟨.value (.func f),xs.toArray,ats⟩,ty,pos,after,none⟩).run E.P w= .ok (.enter f (xs.map a.eval).toArray) w:=by
  simp [execOp,resolve,Act.eval,Deferred.ofValue,invoke,fq hc]
 refine⟨fun c h=>(by cases h),?_⟩
 rw [hr]
 refine(hs w S _ st.sat (hx.tys st.facts) (lR st.own).1.weak).mono fun e w' ⟨v,fp,S',he,h1,h2,h3,h4⟩=>⟨_,he,?_⟩
 have st' :=st.turn (O2:=[Fm E.P args it Ob v fp]) h1 h2 ⟨⟨h3,fun _ _=> .inl (gx _)⟩,fun _ h=>(by cases h),trivial⟩ (fun k ⟨f,hf,hk⟩=>by
  rw [t7.1 hf]at hk;exact h4 k hk)
 exact k v fp _ _ S' (st'.put hd rfl)
theorem FY{fid:FuncId}{O2:List OE}{it:KN α X}{cts:List Ty}{caps:List Operand}(hO:O=O1++O2)(hc:ak E.P fid=true)(hs:zq E.P fid args it Ob O1 cts)(hcap:iW E.N G caps cts)(hd:Nat.blt d E.N.n=true)(k: ∀v fp,RG E ops Q rest (Fm E.P args it Ob v fp::O2) ((d,tV v)::G)):
  RG E ops Q (⟨some d,.makeFunc (.func fid) #[] caps.toArray,ty,pos,after,none⟩::rest) O G:= .of rfl fun a w S st=>by
 subst hO
 have hr:(execOp a.eval ⟨some d,.makeFunc (.func fid) #[] caps.toArray,ty,pos,after,none⟩).run E.P w= .ok (.value (.func (.func fid) #[] (caps.map a.eval).toArray)) w:=by simp [execOp,Instr.makeFunc]
 refine⟨fun c h=>(by cases h),?_⟩
 rw [hr]
 obtain⟨h1,h2,h3⟩:=lR st.own
 have hcv:=hcap.tys st.facts
 refine k (.func (.func fid) #[] (caps.map a.eval).toArray) (xM O1) _ _ S ⟨st.ext,st.sat,?_,st.facts.put hd rfl⟩;refine cI.cons ⟨⟨fun b ⟨f,hf,hb⟩=>f.here (cI.mem h1 f hf).1 b hb,fid,_,rfl,hc,fun C w' S' he hC hs' =>?_⟩,fun b ⟨f,hf,hb⟩=>(cI.mem h1 f hf).2 b hb⟩ (fun f hf b ⟨g,hg,hb⟩=>h3 g hg f hf b hb) h2;exact hs w' S' _ hs' (h1.weak.ext he fun f hf b hb=>hC b ⟨f,hf,hb⟩) (hcv.mono he.keep)
end

def qv(l:Nat)(r:Loop)(st:LoopState)(pd:Option Code):OE where
 fp:=fun k=>k=l
 p:=fun w S=>S l=none∧w.heap[l]? =some (.loop {r with state:=st,pending:=pd})
 here:=by
  intro w S h k hk
  subst hk
  exact(sU.1 h.2).1
 kept:=by
  intro C w w' S S' h k hC
  have hlt:=(sU.1 h.2).1
  exact⟨by rw [k.old l hlt (hC l rfl)];exact h.1,by rw [k.heap l hlt (hC l rfl)];exact h.2⟩
def QC(j:Option Nat):LoopState:=if j.isNone then .ready else .done
def OX(E:En)(l:Nat)(rec:Loop){σ ι:Type}(Oi:ι→List OE)(dat:ι→σ)(jc:Nat→Code)(r:Option Nat×σ):Ending→World→Prop:=fun en w' =>
 ∃i S',en= .returned (.bool r.1.isNone)∧dat i=r.2∧fN E.B E.w0 E.S0 w' S' ∧ii w' S' ∧cI E.base E.B w' S' (qv l rec (QC r.1) (r.1.map jc)::Oi i)
def xf{α σ:Type}(f:α→σ→Option (Option Nat×σ)):α→Option Nat×σ→Option (Bool×(Option Nat×σ)):=fun x s=>
 match s.1 with
 |some _=>none
 |none=>(f x s.2).map fun r=>(r.1.isNone,r)
variable{rec:Loop}{ι:Type}
section
theorem yK{l:Nat}{st st' :LoopState}{pd pd' :Option Code}{O:List OE}(h:cI base B w S (qv l rec st pd::O))(hs:ii w S):
  fN (fun k=>k=l) w S (w.putObj l (.loop {rec with state:=st',pending:=pd' })) S∧ii (w.putObj l (.loop {rec with state:=st',pending:=pd' })) S∧cI base B (w.putObj l (.loop {rec with state:=st',pending:=pd' })) S (qv l rec st' pd' ::O):=by
 obtain⟨hno,hl⟩:=h.1.1
 have hlt:=(sU.1 hl).1
 have hext:fN (fun k=>k=l) w S (w.putObj l (.loop {rec with state:=st',pending:=pd' })) S:=⟨rfl,rfl,rfl,dN _,by simp,fun k _ hk=>World.putObj_heap_other hk,SH.le_refl _,fun _ _ _=>rfl⟩
 refine⟨hext,hs.same fun k o hk=>?_,⟨⟨hno,World.putObj_heap_same hlt⟩,h.1.2⟩,h.2.1,h.2.2.ext hext fun g hg k hk hkl=>h.2.1 g hg k hkl hk⟩
 have hne:k≠l:=fun e=>by subst e;rw [hno]at hk;cases hk
 exact World.putObj_heap_other hne
theorem EJ{l:Nat}{body:Code}{R:Ending→World→Prop}(h:CG E (roundPost E.P l R) body (qv l rec .busy none::O) G):AT E (Qq E l body R) .normal (qv l rec .ready none::O) G:=fun a w S st=>by
 obtain⟨h1,h2,h3⟩:=yK (st' := .busy) (pd' :=none) st.own st.sat
 obtain⟨_,hl⟩:=st.own.1.1
 exact⟨_,run_beginRound hl rfl,h a _ S ⟨st.ext.step h1 (fun c hc=>st.own.1.2 c hc),h2,h3,st.facts⟩⟩
theorem F3{l:Nat}{Oi:ι→List OE}{dat:ι→σ}{jc:Nat→Code}{s2:σ}(i:ι)(hi:dat i=s2)(hO:O=Oi i):AT E (roundPost E.P l (OX E l rec Oi dat jc (none,s2))) .normal (qv l rec .busy none::O) G:=fun a w S st=>by
 subst hO
 obtain⟨h1,h2,h3⟩:=yK (st' := .ready) (pd' :=none) st.own st.sat
 obtain⟨_,hl⟩:=st.own.1.1
 exact⟨_,_,run_endRound none hl,i,S,rfl,hi,st.ext.step h1 (fun c hc=>st.own.1.2 c hc),h2,h3⟩
theorem zw{l:Nat}{Oi:ι→List OE}{dat:ι→σ}{jc:Nat→Code}{s2:σ}(q:Nat)(hq:jc q= .ret)(i:ι)(hi:dat i=s2)(hO:O=Oi i):AT E (roundPost E.P l (OX E l rec Oi dat jc (some q,s2))) .ret (qv l rec .busy none::O) G:=fun a w S st=>by
 subst hO
 obtain⟨h1,h2,h3⟩:=yK (st' := .done) (pd' :=some .ret) st.own st.sat
 obtain⟨_,hl⟩:=st.own.1.1
 exact⟨_,_,run_endRound (some .ret) hl,i,S,rfl,hi,st.ext.step h1 (fun c hc=>st.own.1.2 c hc),h2,by rw [Dt,hq];exact h3⟩
theorem ED{it:KN α X}(Oi:ι→List OE)(dat:ι→σ)(jc:Nat→Code){f:α→σ→Option (Option Nat×σ)}{R:(Option Nat×σ)×X}{g:Operand}{ps:List Nat}{assign body:Code}(hr:E.r=none)(hg:aK E.N G g (tV v))(i0:ι)(hO:O=Fm E.P args it Ob v fp::Oi i0)(hit:it (Option Nat×σ) (xf f) (none,dat i0)=some R)(hps: ∀x,ps.length=(args x).length)(hpn:(ps.all fun d=>Nat.blt d E.N.n)=true)(hbody: ∀(i:ι) (x:α) (r:Option Nat×σ),f x (dat i)=some r→ ∀(l:Nat) (rec:Loop) (w1:World) (S1:SH) (B1:Nat→Prop),
   CG ⟨E.P,⟨E.N.n,[]⟩,B1,w1,S1,some l⟩ (Qq ⟨E.P,⟨E.N.n,[]⟩,B1,w1,S1,some l⟩ l body (OX ⟨E.P,⟨E.N.n,[]⟩,B1,w1,S1,some l⟩ l rec Oi dat jc r)) assign (qv l rec .ready none::Oi i) (D1 ps (args x) G))(k: ∀i' j,dat i' =R.1.2→ ∀b,(R.1.1=none→AT ⟨E.P,⟨E.N.n,vO b::E.N.ds⟩,E.B,E.w0,E.S0,E.r⟩ Q .normal (Bg b::(Ob R.2 j++Oi i')) G)∧
   (∀q,R.1.1=some q→CG ⟨E.P,⟨E.N.n,vO b::E.N.ds⟩,E.B,E.w0,E.S0,E.r⟩ Q (jc q) (Bg b::(Ob R.2 j++Oi i')) G)):CG E Q (.rangeFunc g ps.toArray assign body) O G:=fun a w S st=>by
 subst hO
 refine wpIn_rangeFunc fun fn _=>?_
 have hr0:(fw E.r).round=none:=hr
 have hfw:fw E.r=fw none:=by rw [hr]
 rw [hr0]
 obtain⟨rec,hrec⟩: ∃rec:Loop,rec={state:= .ready,pending:=none,fn,tmps:=a.tmps,params:=ps.toArray,assign,body,defers:=w.heap.size}:=⟨_,rfl⟩
 obtain⟨x1,x2,x3⟩:=eJ (w:=w) (.deferred (some [])) st.sat
 obtain⟨y1,y2,y3⟩:=eJ (w:=w.alloc (.deferred (some []))) (.loop rec) x2
 obtain⟨W1,hW1⟩: ∃W1,(w.alloc (.deferred (some []))).alloc (.loop rec)=W1:=⟨_,rfl⟩
 rw [hW1]at y1 y2
 have hsz:(w.alloc (.deferred (some []))).heap.size=w.heap.size+1:=by simp
 rw [hsz]at y3
 have hext:fN nZ w S W1 S:=x1.trans y1
 have hL1:W1.heap[w.heap.size+1]? =some (.loop rec):=by
  rw [←hW1];have:=World.alloc_heap_new (w.alloc (.deferred (some []))) (.loop rec);rwa [hsz]at this
 have hK1:W1.heap[w.heap.size]? =some (.deferred (some [])):=by
  rw [y1.heap w.heap.size (by omega) (fun h=>h)];exact World.alloc_heap_new w _
 have hW1s:W1.heap.size=w.heap.size+2:=by rw [←hW1];simp
 have hg' :a.eval g=v:=hg S a st.facts
 obtain⟨hit1,hap,hoi⟩:=st.own
 obtain⟨⟨hfp,gf,cap,hv,hcal,hcall⟩,hbase⟩:=hit1
 have hbl:=st.base_le
 have hoi1:cI E.base E.B W1 S (Oi i0):=hoi.ext0 hext
 have hlt: ∀f∈Oi i0,∀k,f.fp k→k<w.heap.size:=fun f hf k hk=>f.here (cI.mem hoi f hf).1 k hk
 refine⟨w.heap.size+1,[vO w.heap.size],W1,{target:= .fn (.func gf) cap,args:= #[.func (.yield (w.heap.size+1)) #[] #[]]},W1,gf,
  #[.func (.yield (w.heap.size+1)) #[] #[]]++cap,W1,?_,?_,fun _ _=>trivial,?_,fun h=>(by cases h),?_⟩
 ·rw [←hW1,hrec];exact run_enterLoop_outer _ _ _ _ _
 ·simp only [resolve,hg',hv]
  simp [go_sem]
 ·simp [invoke,go_sem,fq hcal]
 rw [hfw]
 refine jx.2 ?_
 have hyld:SV E.P args (xf f) (fun s e=> ∃i,dat i=s.2∧e=oX S (qv (w.heap.size+1) rec (QC s.1) (s.1.map jc)::Oi i)) (.func (.yield (w.heap.size+1)) #[] #[]):=by
  refine⟨_,rfl,?_⟩
  rintro x ⟨j0,s⟩ r hy e ⟨i,hi,rfl⟩ w2 S2 vs hs2 ⟨hle,hown⟩ hvs
  cases j0 with
  |some q=>unfold xf at hy;cases hy
  |none=>
  have hi' :dat i=s:=hi
  subst hi'
  obtain⟨r2,hs2',rfl⟩: ∃r2,f x (dat i)=some r2∧r=(r2.1.isNone,r2):=by
   unfold xf at hy
   cases hf:f x (dat i)with
   |none=>simp only [hf]at hy;cases hy
   |some s2=>simp only [hf]at hy;exact⟨s2,rfl,by simpa using hy.symm⟩
  have hl2:=hown.1.1.2
  have hvl:=hvs.length
  have hyr:=run_yield (P:=E.P) (args:=vs.toArray) hl2 (by rw [hrec];simp [hps x,hvl])
  refine⟨_,_,_,_,hyr,roundIn_of_wpIn trivial ?_⟩
  have hown' :cI 0 nZ w2 S2 (qv (w.heap.size+1) rec .ready none::Oi i):=hown
  have:=hbody i x r2 hs2' (w.heap.size+1) rec w2 S2 (fun k=> ∃f∈qv (w.heap.size+1) rec .ready none::Oi i,f.fp k)
   {tmps:=(ps.zip vs).foldl (fun t (p:Nat×Value)=>t.setIfInBounds p.1 p.2) a.tmps,defers:=[]} w2 S2
   ⟨fi _ _ _,hs2,jJ hown' fun f hf k hk=> .inr ⟨f,hf,hk⟩,xR ps (args x) vs ⟨a.tmps,[]⟩ G (hps x) hvs hpn ⟨st.facts.size,rfl,fun j t h=>t.mono hle (st.facts.at_ j t h)⟩⟩
  rw [hrec]
  rw [hrec]at this
  rw [uY]
  refine wpIn_mono this ?_
  intro e a3 w3 hp
  cases e with
  |normal=>
   obtain⟨w4,hb4,hp4⟩:=hp
   refine⟨w4,hb4,wpIn_mono hp4 ?_⟩
   have hR: ∀en w',OX ⟨E.P,⟨E.N.n,[]⟩,fun k=> ∃f∈qv (w.heap.size+1) rec .ready none::Oi i,f.fp k,w2,S2,some (w.heap.size+1)⟩ (w.heap.size+1) rec Oi dat jc r2 en w' →
     ∃e' S',en= .returned (.bool r2.1.isNone)∧(∃i',dat i' =r2.2∧e' =oX S (qv (w.heap.size+1) rec (QC r2.1) (r2.1.map jc)::Oi i'))∧fN (oX S (qv (w.heap.size+1) rec .ready none::Oi i)).fp w2 S2 w' S' ∧ii w' S' ∧e'.p w' S' ∧ ∀k,e'.fp k→(oX S (qv (w.heap.size+1) rec .ready none::Oi i)).fp k∨w2.heap.size≤k:=by
    rintro en w' ⟨i',S',h1,h2,h3,h4,h5⟩
    exact⟨_,S',h1,⟨i',h2,rfl⟩,h3,h4,⟨SH.le_trans hle h3.keep,h5.weak⟩,fun k ⟨f,hf,hk⟩=>((cI.mem h5 f hf).2 k hk).symm⟩
   rw [hrec]at hR
   intro e5 a5 w5 hp5
   cases e5<;>simp only [roundPost]at hp5 ⊢
   case normal=>obtain⟨v5,w6,h1,h2⟩:=hp5;exact⟨v5,w6,h1,hR _ _ h2⟩
   case ret=>obtain⟨v5,w6,h1,h2⟩:=hp5;exact⟨v5,w6,h1,hR _ _ h2⟩
   case exit=>obtain⟨v5,w6,h1,h2⟩:=hp5;exact⟨v5,w6,h1,hR _ _ h2⟩
   case goto=>obtain⟨v5,w6,h1,h2⟩:=hp5;exact⟨v5,w6,h1,hR _ _ h2⟩
  |_=>exact hp
 have hrecE:W1.heap[w.heap.size+1]? =some (.loop {rec with state:= .ready,pending:=none}):=by rw [hL1,hrec]
 have he0:(oX S (qv (w.heap.size+1) rec .ready none::Oi i0)).p W1 S:=⟨SH.le_refl _,⟨⟨y3,hrecE⟩,fun _ _=> .inl (gx _)⟩,fun f hf k hk hfk=>by have:=hlt f hf k hfk;have hk' :k=w.heap.size+1:=hk;omega,hoi1.weak⟩
 have hap0: ∀k,(oX S (qv (w.heap.size+1) rec .ready none::Oi i0)).fp k→ ¬fp k:=by
  rintro k ⟨f,hf,hk⟩ hfk
  rcases gz.1 hf with rfl|hf
  ·have:=hfp k hfk;have hk' :k=w.heap.size+1:=hk;omega
  ·exact hap f hf k hfk hk
 refine(hcall nZ W1 S hext (fun _ _ h=>h) y2 _ (xf f) (none,dat i0) R hit _ _ hyld _ ⟨i0,rfl,rfl⟩ he0 hap0).mono ?_
 rintro en w2 ⟨e',S2,j,⟨vr,rfl⟩,⟨i',hi',rfl⟩,hx2,hs2,⟨hle2,hown2⟩,hob,hnew,hapo⟩
 have hl2:=hown2.1.1.2
 have hnb: ∀k,(Bg w.heap.size).fp k→ ¬((oX S (qv (w.heap.size+1) rec .ready none::Oi i0)).fp k∨fp k):=by
  rintro k hk h
  have hk' :k=w.heap.size:=hk
  subst hk'
  rcases h with⟨f,hf,hfk⟩|h
  ·rcases gz.1 hf with rfl|hf
   ·have hk' :w.heap.size=w.heap.size+1:=hfk;omega
   ·have:=hlt f hf _ hfk;omega
  ·have:=hfp _ h;omega
 have hBin: ∀k,((oX S (qv (w.heap.size+1) rec .ready none::Oi i0)).fp k∨fp k)→E.w0.heap.size≤k∨E.B k:=by
  rintro k (⟨f,hf,hk⟩|h)
  ·rcases gz.1 hf with rfl|hf
   ·left;have hk' :k=w.heap.size+1:=hk;have:E.w0.heap.size≤w.heap.size:=hbl;omega
   ·exact(cI.mem hoi f hf).2 k hk
  ·exact hbase k h
 have hBn: ∀k,((oX S (qv (w.heap.size+1) rec (QC R.1.1) (R.1.1.map jc)::Oi i')).fp k∨xM (Ob R.2 j) k)→E.base≤k∨E.B k:=fun k hk=>(hnew k hk).elim (hBin k) (fun h=> .inl (by have h1:E.base≤w.heap.size:=hbl;have h2:W1.heap.size≤k:=h;omega))
 have hb2:cI E.base E.B w2 S2 (qv (w.heap.size+1) rec (QC R.1.1) (R.1.1.map jc)::(Ob R.2 j++Oi i')):=by
  obtain⟨q1,q2,q3⟩:=hown2
  refine cI.cons ⟨q1.1,fun k hk=>hBn k (.inl ⟨_,nm ..,hk⟩)⟩ (fun f hf=>?_) (cI.join (jJ hob fun f hf k hk=>hBn k (.inr ⟨f,hf,hk⟩)) (jJ q3 fun f hf k hk=>hBn k (.inl ⟨f,nE _ hf,hk⟩)) fun e he f hf k hek hfk=>hapo k ⟨f,nE _ hf,hfk⟩ ⟨e,he,hek⟩)
  rcases xj.1 hf with hf|hf
  ·exact fun k hk hfk=>hapo k ⟨_,nm ..,hk⟩ ⟨f,hf,hfk⟩
  ·exact q2 f hf
 have hend:QC R.1.1≠ .busy:=by unfold QC;split<;>simp
 obtain⟨z1,z2,z3⟩:=yK (st' := .exhausted) (pd' :=R.1.1.map jc) hb2 hs2
 have hdf:(Bg w.heap.size).p W1 S:=⟨x3,hK1⟩
 have S5:(Bg w.heap.size).p w2 S2:=(Bg w.heap.size).kept hdf hx2 hnb
 have hd3:=(Bg w.heap.size).kept S5 z1 (fun k hk hkl=>by have h1:k=w.heap.size:=hk;have h2:k=w.heap.size+1:=hkl;omega)
 have stE:St ⟨E.P,⟨E.N.n,vO w.heap.size::E.N.ds⟩,E.B,E.w0,E.S0,E.r⟩ (Bg w.heap.size::(Ob R.2 j++Oi i')) G {a with defers:=[vO w.heap.size]++a.defers} (w2.putObj (w.heap.size+1) (.loop {rec with state:= .exhausted,pending:=R.1.1.map jc})) S2:=by
  refine⟨((st.ext.step0 hext).step hx2 hBin).step z1 (fun c hc=>z3.1.2 c hc),z2,?_,?_⟩
  ·refine cI.cons ⟨hd3,fun k hk=> .inl (by have h1:k=w.heap.size:=hk;rw [h1];exact hbl)⟩ (fun f hf k hk hfk=>?_) z3.2.2
   have h1:k=w.heap.size:=hk
   have h2:((oX S (qv (w.heap.size+1) rec (QC R.1.1) (R.1.1.map jc)::Oi i')).fp k∨xM (Ob R.2 j) k):=by
    rcases xj.1 hf with hf|hf
    ·exact .inr ⟨f,hf,hfk⟩
    ·exact .inl ⟨f,nE _ hf,hfk⟩
   rcases hnew k h2 with h|h
   ·exact hnb k hk h
   ·omega
  ·refine⟨st.facts.size,?_,fun j t hj=>t.mono (SH.le_trans (SH.le_refl S) hle2) (st.facts.at_ j t hj)⟩
   show vO w.heap.size::a.defers=_
   rw [st.facts.defers]
 obtain⟨k1,k2⟩:=k i' j hi' w.heap.size
 refine⟨_,_,run_endLoop hl2 hend,?_⟩
 cases hR1:R.1.1 with
 |none=>
  rw [hR1]at stE
  exact k1 hR1 _ _ S2 stE
 |some q=>
  rw [hR1]at stE
  have:=k2 q hR1 _ _ S2 stE
  show(jc q).wpIn (fw none) 0 E.P Q _ _
  have hE:fw (⟨E.P,⟨E.N.n,vO w.heap.size::E.N.ds⟩,E.B,E.w0,E.S0,E.r⟩:En).r=fw none:=hfw
  rw [hE]at this
  exact this
end

def I3(l:List (Option Nat×Nat)):OI:={h:=fun n=>l.getD n (none,0)}
def dK(P:Program){A X ρ:Type}(args:A→List Ty)(Ob:X→OI→List OE)(res:ρ→Ty)(f:X→A→Option (ρ×X)):Ty where
 p:=fun S v=> ∀x y R,f x y=some R→ ∃fid fst cap,v= .func (.func fid) fst cap∧ak P fid=true∧ ∀i w S' vs,SH.le S S' →ii w S' →u9 S' (args y) vs→cI 0 nZ w S' (Ob x i)→
  Calls P fid (fst++vs.toArray++cap) w fun en w' => ∃j v S'',en= .returned v∧(res R.1).p S'' v∧fN (xM (Ob x i)) w S' w' S'' ∧ii w' S'' ∧cI 0 nZ w' S'' (Ob R.2 j)∧ ∀k,xM (Ob R.2 j) k→xM (Ob x i) k∨w.heap.size≤k
 mono:=fun h k x y R hf=>by
  obtain⟨fid,fst,cap,e,hc,hs⟩:=k x y R hf
  exact⟨fid,fst,cap,e,hc,fun i w S' vs hle=>hs i w S' vs (SH.le_trans h hle)⟩
variable{A ρ:Type}{res:ρ→Ty}
theorem DG{args:A→List Ty}:(dK P args Ob res (fun _ _=>none)).p S v:=fun _ _ _ h=>by cases h
section
section
variable{ty:TypeId}
theorem iI{args:A→List Ty}{f:X→A→Option (ρ×X)}{fid:FuncId}{p:Operand}(hc:ak E.P fid=true)(hp:aK E.N G p (tV (aE b 0)))(hs: ∀x y R,f x y=some R→ ∀i,c9 E.P fid (tV (aE b 0)::args y) (Ob x i) (fun _:OI=>res R.1) (fun j=>Ob R.2 j)):
  bW E O G ⟨dst,.makeFunc (.func fid) #[p] #[],ty,pos,after,g⟩ (dK E.P args Ob res f):= .of_pure fun a w S _ _ hf=>by
 have h1:a.eval p=aE b 0:=hp S a hf
 refine⟨.func (.func fid) #[aE b 0] #[],by simp [execOp,Instr.makeFunc,h1],fun x y R hR=>⟨fid,#[aE b 0],#[],rfl,hc,fun i w' S' vs _ hsat hv ho=>?_⟩⟩
 have:=hs x y R hR i w' S' (aE b 0::vs) hsat ⟨rfl,hv⟩ ho
 rw [show(#[aE b 0]++vs.toArray++ #[]:Array Value)=(aE b 0::vs).toArray from by simp]
 exact this
end
theorem zd{args:A→List Ty}{f:X→A→Option (ρ×X)}{x:X}{y:A}{R:ρ×X}{i:OI}{ty:TypeId}{fo:Operand}{xs:List Operand}(Or:List OE)(hO:O=Ob x i++Or)(hf:aK E.N G fo (dK E.P args Ob res f))(hR:f x y=some R)(hx:iW E.N G xs (args y))(hpost: ∀j,Ob R.2 j++Or=post j):
  EffOK E O G ⟨some d,.call ⟨.value fo,xs.toArray,ats⟩,ty,pos,after,g⟩ post (fun _=>res R.1):=fun a w S hsat ho hF hb=>by
 subst hO
 obtain rfl:(fun j=>Ob R.2 j++Or)=post:=funext hpost
 obtain⟨fid,fst,cap,e,hc,hs⟩:=hf S a hF x y R hR
 have hr:(execOp a.eval ⟨some d,.call ⟨.value fo,xs.toArray,ats⟩,ty,pos,after,g⟩).run E.P w= .ok (.enter fid (fst++(xs.map a.eval).toArray++cap)) w:=by
  simp [execOp,resolve,e,Deferred.ofValue,invoke,fq hc]
 refine⟨fun c h=>(by cases h),?_⟩
 rw [hr]
 exact(hs i w S _ (SH.le_refl _) hsat (hx.tys hF) (lR ho).1.weak).mono fun en w' ⟨j,v,S',he,hv,h1,h2,h3,h4⟩=>⟨_,he,v,S',j,rfl,h1.more fun b ⟨f,hf,hb⟩=>⟨f,BL _ hf,hb⟩,h2,cI.turn ho hb h1 h3 h4,hv⟩
theorem kS{t:Ty}{Ob:OI→List OE}{i:OI}(h:c9 P f ts O1 (fun _:OI=>t) (fun _=>Ob i)):c9 P f ts O1 (fun _:OI=>t) Ob:=fun w S vs hs hv ho=>
 (h w S vs hs hv ho).mono fun _ _ ⟨_,v,S',h1,h2,h3,h4,h5,h6⟩=>⟨i,v,S',h1,h2,h3,h4,h5,h6⟩
section
variable{t:ι→Ty}{O2:ι→List OE}
theorem jy{rvs:List ResultVar}(hr:fn.results=rvs.toArray)(h1:Nat.beq rvs.length 1=false)(h:Md P ⟨N,[]⟩ G rvs ts)(i:ι)(hO:O=O2 i)(ht:t i=tT ts):
  AT ⟨P,⟨N,[]⟩,xM O1,w0,S0,none⟩ (bodyPost P fn (N6 ⟨P,⟨N,[]⟩,xM O1,w0,S0,none⟩ O1 t O2)) .ret O G:=fun a w S st=>by
 obtain⟨vs,k1,k2,k3⟩:=h.run st.sat st.facts
 have hne: ¬vs.length=1:=by rw [k3];intro e;rw [e]at h1;cases h1
 refine⟨st.facts.defers,.tuple vs.toArray,?_,FP st rfl i hO (by rw [ht];exact⟨vs,rfl,k2⟩)⟩
 have e1:(fn.results.mapM (xz a.tmps)).run P w= .ok vs.toArray w:=by
  rw [hr,List.mapM_toArray,Sem.run_map,k1]
  rfl
 have e3:results fn a.tmps=((fn.results.mapM (xz a.tmps))>>=fun vs=>pure (if h:vs.size=1 then vs[0]else .tuple vs)):=rfl
 rw [e3,o4,e1]
 simp [Result.andThen,hne]
theorem gO{x:α}(hr:fn.results= #[.cell k T])(ti:TI P T sz bytes agg z)(hsz:r.sz=sz)(hag:r.agg=agg)(hk:look G k=some (bw r x))(i:ι)(hO:O=O2 i)(ht:t i=tD r x):
  AT ⟨P,⟨N,[]⟩,xM O1,w0,S0,none⟩ (bodyPost P fn (N6 ⟨P,⟨N,[]⟩,xM O1,w0,S0,none⟩ O1 t O2)) .ret O G:=fun a w S st=>by
 obtain⟨b,off,c,U,fr,h1,h2,h3⟩:=st.facts.at_ k _ hk
 obtain⟨c',h4,h5⟩:=st.sat.part h2 (r.len h3)
 rw [←h5]at h3
 refine⟨st.facts.defers,r.val ((c'.toList.drop off).take r.sz),?_,FP st rfl i hO (by rw [ht];exact⟨_,rfl,h3⟩)⟩
 have hl:=ji ti h4 hsz hag h3
 have h1' :a.tmps[k]?.getD undef=Value.pointer (some ⟨b,off,none⟩):=by simpa [EM] using h1
 simp [results,hr,h1',asAddr,hl]
end
def Vv(u:Value)(t:Ty):Ty where
 p:=fun S v=>v=u∧t.p S u
 mono:=fun h ⟨e,k⟩=>⟨e,t.mono h k⟩
theorem St.settleP{x:α}(h:St E (bx r T b x::O) G a w S)(hk:look G k=some (tV (aE b 0))): ∃S',St E O ((k,Vv (aE b 0) (bw r x))::G) a w S' :=by
 obtain⟨S',h1⟩:=h.settleB hk
 have hv:a.tmps.getD k undef=aE b 0:=h.facts.at_ k _ hk
 refine⟨S',⟨h1.ext,h1.sat,h1.own,⟨h1.facts.size,h1.facts.defers,fun j t hj=>?_⟩⟩⟩
 have hp:(bw r x).p S' (a.tmps.getD k undef):=h1.facts.at_ k _ (by simp [look])
 by_cases hb:Nat.beq k j=true
 ·have e:=mQ hb
  subst e
  simp only [look,Nat.beq_refl,cond_true,F9]at hj
  subst hj
  exact⟨hv,by rw [←hv];exact hp⟩
 ·rw [yc]at hb
  have:look ((k,bw r x)::G) j=some t:=by
   simp only [look,hb,cond_false]at hj ⊢;exact hj
  exact h1.facts.at_ j t this
theorem ya{x:α}(k:Nat)(hk:look G k=some (tV (aE b 0)))(h:AT E Q e O ((k,Vv (aE b 0) (bw r x))::G)):AT E Q e (bx r T b x::O) G:=
 fun a w _ st=>let⟨S',st'⟩:=st.settleP hk;h a w S' st'
theorem Qp{hs:HL}{x:α}(h:cI base B w S (bx (rH r hs) T b x::O)):cI base B w S (bx r T b x::O):=by
 obtain⟨⟨⟨h1,c,h2,h3⟩,h4⟩,h5,h6⟩:=h
 exact⟨⟨⟨h1,c,h2,h3.1⟩,h4⟩,h5,h6⟩
theorem Ak{hs:HL}{x:α}(h:AT E Q e (bx r T b x::O) G):AT E Q e (bx (rH r hs) T b x::O) G:=fun a w S st=>h a w S (st.own_map Qp)
theorem zQ{N:Fr}{G:kW}{j:Nat}{t:Ty}(ti:TI P T 1 bytes false z)(hk:look G k=some (bw rV u))(hj:look G j=some (Vv u t)):KC P N G (.cell k T) t:=fun a w S hs hf=>by
 obtain⟨v,h1,h2⟩:=gb (r:=rV) ti rfl rfl hk a w S hs hf
 have h3:=(ue.1 h2).1
 subst h3
 obtain⟨_,h4⟩:=hf.at_ j _ hj
 exact⟨v,h1,h4⟩
end
section
variable [DecidableEq κ]{k:κ}{i v:Operand}{dst:Option Nat}{ty:TypeId}
theorem kC(hm:E.P.underlying t=some (.map kt et))(hk:EC E.P kt kv)(hx:aK E.N G x (tV (oW b)))(hi:H1 E.N G i (kv k))(hv:aK E.N G v (γ y))(h: ∀os',RG E ops Q rest (mS (xb γ) kv b none os' (dM m k y)::O) G):
  RG E ops Q (⟨none,.insert t x i v,ty,pos,after,none⟩::rest) (mS (xb γ) kv b none os m::O) G:= .of rfl fun a w S st=>by
 have h1:a.eval x=oW b:=hx S a st.facts
 have h2:a.eval i=kv k:=hi S a st.facts
 have h3:(γ y).p S (a.eval v):=hv S a st.facts
 obtain⟨⟨hp,hfp⟩,hap,hO⟩:=st.own
 obtain⟨hno,hnb,es,clock,e3,e4,hst⟩:=hp
 obtain⟨q,hq,hdk,hinj⟩:=hk
 obtain⟨os1,p1,p2,_⟩:=rE hdk hinj (k:=k) 0 e4
 have hnb1: ∀o∈os1,o.1≠some b:=fun o ho=>by
  rcases p1 o ho with h|h
  ·exact hnb o h
  ·rw [h];exact fun e=>by cases e
 obtain⟨w',os',r,x1,x2,x3,x4⟩:=Ec (V:=xb γ) (E:=E) (y:=y) (o:=(none,0)) (val:=a.eval v) st.sat hm ⟨q,hq,hdk,hinj⟩ ⟨hno,hnb1,es,clock,e3,p2,hst⟩ ⟨rfl,h3⟩ (fun e=>by cases e) (fun _ _ _ e=>by cases e)
 have hrun:(execOp a.eval ⟨none,.insert t x i v,ty,pos,after,none⟩).run E.P w= .ok .skip w' :=by simp [execOp,h1,h2,r]
 refine⟨fun c h=>(by cases h),?_⟩
 rw [hrun]
 have hfp' : ∀j,(mS (xb γ) kv b none os' (dM m k y)).fp j→(mS (xb γ) kv b none os m).fp j:=fun j hj=>by
  rcases x4 j hj with(h|⟨o,ho,e⟩)|e
  ·exact .inl h
  ·rcases p1 o ho with h|h
   ·exact .inr ⟨o,h,e⟩
   ·rw [h]at e;cases e
  ·cases e
 exact h os' _ _ S ⟨st.ext.step x1 (fun c hc=>hfp c (.inl hc)),x2,⟨⟨x3,fun j hj=>hfp j (hfp' j hj)⟩,fun f hf j hj=>hap f hf j (hfp' j hj),hO.ext x1 fun f hf j hj hjb=>hap f hf j (.inl hjb) hj⟩,st.facts⟩
end
def VA(b:Bool):Option Unit:=if b then some ()else none
theorem Nw{b:Bool}{u:Unit}(h:VA b=some u):b=true:=by
 unfold VA at h
 split at h
 ·assumption
 ·cases h

section
variable [DecidableEq κ]{k:κ}{i:Operand}{dst:Option Nat}{ty:TypeId}
end

def GS:Nat:=1000000
def Vw{α:Type}(r:Rp α)(x:α)(g:Nat):Ty where
 p:=fun S _=>(bw r x).p S (aE g 0)
 mono:=fun h k=>(bw r x).mono h k
theorem RU{x:α}{g:Nat}{vs:List Value}(hs:ii w S)(hg:(g,vs)∈glob)(hr: ∀S,r.rc S vs x):(bw r x).p S (aE g 0):=by
 obtain⟨c,T,fr,h1,h2⟩:=hs.gl _ hg
 refine⟨g,0,c,T,fr,rfl,h1,?_⟩
 rw [qr,←r.len (hr S)]
 have h3:c.toList.take vs.length=vs:=h2
 rw [h3]
 exact hr S
section
variable{ty:TypeId}
theorem NO{N:Fr}{t:Ty}(hf:cR N S a G)(h: ∀v,t.p S v):cR N S a ((GS,t)::G):=⟨hf.size,hf.defers,fun j u hj=>by
 unfold look at hj
 cases hb:Nat.beq GS j with
 |true=>
  rw [hb]at hj
  simp only [cond_true,F9]at hj
  rw [←hj];exact h _
 |false=>
  rw [hb]at hj
  simp only [cond_false]at hj
  exact hf.at_ j u hj⟩
theorem EB{x:α}{v:Nat}{vs:List Value}{t:Ty}(hg:(v,vs)∈glob)(hr: ∀S,r.rc S vs x)(h:bW E O ((GS,Vw r x v)::G) o t):bW E O G o t:=fun a w S hs ho hf=>
 h a w S hs ho (NO hf fun _=>RU hs hg hr)
theorem QL{N:Fr}{x:α}{v:Nat}:aK N ((GS,Vw r x v)::G) (.global v) (bw r x):=fun S a hf=>hf.at_ GS (Vw r x v) (by simp [look])
def yV(s:gV)(i:Int):Option Int:=(cK s i).map fun b=>(b.toNat:Int)
theorem Lw{ix:Operand}{k:IntKind}{i y:Int}(ht:E.P.underlying t=some .string)(hx:aK E.N G x (tD rS s))(hi:aK E.N G ix (tD (rI k) i))(hy:yV s i=some y):
  bW E O G ⟨dst,.index t x ix,ty,pos,after,g⟩ (tD (rI .u8) y):= .of_pure fun a w S _ _ hf=>by
 have h1:a.eval x= .string ⟨s.toArray⟩:=vl.1 (hx S a hf)
 have h2:a.eval ix= .int k i:=dO.1 (hi S a hf)
 unfold yV at hy
 cases hb:cK s i with
 |none=>rw [hb]at hy;cases hy
 |some b=>
  rw [hb]at hy
  obtain⟨g1,g2⟩:=jZ hb
  have hlt:i.toNat<s.length:=(oT.1 g2).1
  have e:y=(b.toNat:Int):=by simpa using hy.symm
  have hsz:(ByteArray.mk s.toArray).size=s.length:=by simp [ByteArray.size]
  refine⟨.int .u8 y,?_,dO.2 rfl⟩
  have h3:=run_index_string (P:=E.P) w t ⟨s.toArray⟩ k i ht
  rw [dif_pos (by rw [hsz];omega)]at h3
  have h4:(ByteArray.mk s.toArray)[i.toNat]'(by rw [hsz];exact hlt)=b:=by
   have:=(oT.1 g2).2
   show s.toArray[i.toNat]=b
   simpa using this
  simp only [execOp,h1,h2,o4,h3,qt,BH]
  rw [h4,e]
end
open Go.MapKept (Stamped)
section
variable [DecidableEq κ]
def tNx(b:Bool):Ty where
 p:=fun _ v=> ∃vs:List Value,v= .tuple (.mk (.bool b::vs))
 mono:=fun _ h=>h
end
section
variable [DecidableEq κ]{r:Nat}{left:List κ}{cur:Option κ}{k:κ}{i v:Operand}{dst:Option Nat}{ty:TypeId}
theorem Fi{f:Bool}(hx:aK E.N G x (tNx f)):bW E O G ⟨dst,.extract x 0,ty,pos,after,g⟩ (tD rB f):=
 .of_pure fun a w S _ _ hf=>by
  obtain⟨vs,h1⟩:=hx S a hf
  exact⟨.bool f,by simp [execOp,h1,Instr.extract],iP.2 rfl⟩
end
open Go.RowKit

theorem LP(hs:ii w S)(h:Below w.heap.size w w')(hd:w.drawn≤w'.drawn):fN nZ w S w' S∧ii w' S:=
 ⟨⟨h.os,h.tape,h.output,hd,h.size,fun k hk _=>h.block k hk,SH.le_refl _,fun _ _ _=>rfl⟩,hs.same fun b o hb=>h.block b (hs.lt hb)⟩
theorem HR{t:gV}(h: ∀w:World,K0 w→Calls P f #[.string ⟨s.toArray⟩] w fun e w' =>e= .returned (.string ⟨t.toArray⟩)∧Below w.heap.size w w'):bA P f [tD rS s] (tD rS t):=fun w S vs hs hv=>by
 match vs,hv with
 |[v],⟨h1,_⟩=>
  obtain rfl:=vl.1 h1
  refine(HN (h w hs.tab) (fun w' hr=>by cases hr.1)).mono fun e w' ⟨⟨he,hb⟩,hd⟩=>?_
  obtain⟨k1,k2⟩:=LP hs hb hd
  exact⟨_,S,he,k1,k2,vl.2 rfl⟩

def wX(xs:List Int):gV:=xs.map fun n=>UInt8.ofNat n.toNat
section
variable{ty:TypeId}
theorem Ls{e:TypeId}(ha:E.P.underlying t=some (.array n e))(ti:TI E.P e sz bytes agg z)(hn:Nat.ble n maxLen=true)(hx:aK E.N G x (bw (s5 r n) xs)):bW E O G ⟨dst,.slice t x none none none,ty,pos,after,g⟩ (tD (eU r) xs):= .of_pure fun a w S _ _ hf=>by
 obtain⟨b,off,c,T,fr,h1,h2,h3,h4⟩:=hx S a hf
 have hz:(⟨b,off,none⟩:Addr).add 0=⟨b,off,none⟩:=by rw [ig,zx]
 refine⟨.slice (some ⟨b,off,none⟩) n n,?_,mD.2 ⟨_,_,by rw [h3],by omega,nW hn,.inr ⟨b,off,c,T,fr,rfl,h2,by rw [h3];exact h4⟩⟩⟩
 by_cases h0:n=0
 ·subst h0
  simp [execOp,h1,Instr.sliceAt,iN ha,ti.sizeOf,Instr.sliceBounds,Instr.sureAddr]
 ·simp [execOp,h1,Instr.sliceAt,iN ha,ti.sizeOf,Instr.sliceBounds,Instr.sureAddr,h0,hz]
theorem D8{y:α}{ix:Operand}{e:TypeId}{k:IntKind}{i:Int}(ht:E.P.underlying t=some (.array n e))(ti:TI E.P e sz bytes agg z)(hsz:r.sz=sz)(hag:r.agg=agg)(hx:aK E.N G x (tD (s5 r n) xs))(hi:aK E.N G ix (tD (rI k) i))(hy:cK xs i=some y):bW E O G ⟨dst,.index t x ix,ty,pos,after,g⟩ (tD r y):= .of_pure fun a w S _ _ hf=>by
 obtain⟨cs,h1,h2,h3⟩:=hx S a hf
 have h1' :a.eval x= .agg cs.toArray:=h1
 have h4:a.eval ix= .int k i:=dO.1 (hi S a hf)
 obtain⟨g1,g2⟩:=jZ hy
 have hlt:i.toNat<xs.length:=(oT.1 g2).1
 have hg:=Bs h3 g2
 have hin:0≤i∧i<(n:Int):=⟨g1,by omega⟩
 refine⟨r.val ((cs.drop (i.toNat*r.sz)).take r.sz),?_,_,rfl,hg⟩
 have hp:(part e cs.toArray (i.toNat*sz)).run E.P w= .ok (r.val ((cs.drop (i.toNat*r.sz)).take r.sz)) w:=by
  subst hsz
  subst hag
  have hl:=r.len hg
  unfold part
  simp only [o4,ti.isAgg,qt]
  cases hA:r.agg with
  |true=>
   simp [ti.sizeOf,Rp.val,hA]
  |false=>
   have h1:=r.sc hA
   rw [h1,Nat.mul_one]at hl ⊢
   cases hd:cs.drop i.toNat with
   |nil=>rw [hd]at hl;simp at hl
   |cons v l=>
    have hv:cs[i.toNat]? =some v:=by
     have:=ve (xs:=cs) (i:=i.toNat) (j:=0)
     rw [hd]at this
     simpa using this.symm
    simp [Rp.val,hA,hv]
 simp [execOp,h1',h4,Instr.index,asIntOf,iN ht,hin,ti.sizeOf,hp]

def qR(s:gV)(i:Nat):Nat×Nat:=Utf8.decode ⟨s.toArray⟩ i
def rf(s:gV):Nat→Nat→List (Int×Int)
 |0,_=>[]
 |f+1,i=>if i<s.length then((i:Int),((qR s i).1:Int))::rf s f (i+(qR s i).2)else []
def GK(s:gV):List (Int×Int):=rf s (s.length+1) 0
theorem Qo(s:gV)(i:Nat):1≤(qR s i).2:=by
 unfold qR Utf8.decode
 simp only []
 repeat' split
 all_goals simp
def C5(r:Nat)(s:gV)(left:List (Int×Int)):OE where
 fp:=fun j=>j=r
 p:=fun w S=>S r=none∧ ∃pos f,w.heap[r]? =some (.stringIter ⟨s.toArray⟩ pos)∧left=rf s f pos∧s.length<pos+f
 here:=by
  rintro w S ⟨_,pos,f,h,_⟩ j rfl
  exact(sU.1 h).1
 kept:=by
  rintro C w w' S S' ⟨h0,pos,f,h,h2⟩ k hC
  have hlt:=(sU.1 h).1
  exact⟨by rw [k.old r hlt (hC r rfl)];exact h0,pos,f,by rw [k.heap r hlt (hC r rfl)];exact h,h2⟩
theorem HT(ht:E.P.underlying t=some .string)(hx:aK E.N G x (tD rS s))(hd:Nat.blt d E.N.n=true)(k: ∀r,RG E ops Q rest (C5 r s (GK s)::O) ((d,tV (aE r 0))::G)):RG E ops Q (⟨some d,.range t x,ty,pos,after,none⟩::rest) O G:= .of rfl fun a w S st=>by
 have hv:a.eval x= .string ⟨s.toArray⟩:=vl.1 (hx S a st.facts)
 have hrun:(execOp a.eval ⟨some d,.range t x,ty,pos,after,none⟩).run E.P w= .ok (.value (aE w.heap.size 0)) (w.alloc (.stringIter ⟨s.toArray⟩ 0)):=by
  simp [execOp,hv,Instr.range,iN ht,aE]
 refine⟨fun c h=>(by cases h),?_⟩
 rw [hrun]
 obtain⟨he,hs',hno⟩:=eJ (w:=w) (.stringIter ⟨s.toArray⟩ 0) st.sat
 exact k w.heap.size _ _ S ⟨st.ext.step0 he,hs',oD st.own he ⟨hno,0,s.length+1,BE w _,rfl,by omega⟩ (fun b hb=>by rw [show b=_ from hb];exact dN _) st.base_le,st.facts.put hd rfl⟩
theorem JB{r:Nat}{left:List (Int×Int)}(hx:aK E.N G x (tV (aE r 0)))(hd:Nat.blt d E.N.n=true)(h0:left=[]→RG E ops Q rest (C5 r s []::O) ((d,tNx false)::G))(h1: ∀e l,left=e::l→RG E ops Q rest (C5 r s l::O) ((d,tT [tD rB true,tD (rI .i64) e.1,tD (rI .i32) e.2])::G)):
  RG E ops Q (⟨some d,.next x true,ty,pos,after,none⟩::rest) (C5 r s left::O) G:= .of rfl fun a w S st=>by
 obtain⟨⟨⟨hno,ps,f,hb,hl,hf⟩,hfp⟩,hap,hO⟩:=st.own
 have hv:a.eval x=aE r 0:=hx S a st.facts
 have hsz:(ByteArray.mk s.toArray).size=s.length:=by simp [ByteArray.size]
 have hg:(getObj r).run E.P w= .ok (.stringIter ⟨s.toArray⟩ ps) w:=by
  simp [getObj,Sem.run,hb]
 by_cases hp:ps<s.length
 ·obtain⟨f,rfl⟩: ∃f',f=f' +1:=⟨f-1,by omega⟩
  have hl2:left=((ps:Int),((qR s ps).1:Int))::rf s f (ps+(qR s ps).2):=by rw [hl,rf,bm hp]
  have hset:(setObj r (.stringIter ⟨s.toArray⟩ (ps+(qR s ps).2))).run E.P w= .ok () {w with heap:=w.heap.setIfInBounds r (.stringIter ⟨s.toArray⟩ (ps+(qR s ps).2))}:=by
   simp [setObj,Sem.run,hb]
  have hrun:(execOp a.eval ⟨some d,.next x true,ty,pos,after,none⟩).run E.P w= .ok (.value (.tuple #[.bool true,.int .i64 ps,.int .i32 (qR s ps).1])) {w with heap:=w.heap.setIfInBounds r (.stringIter ⟨s.toArray⟩ (ps+(qR s ps).2))}:=by
   have h3:(Instr.next (aE r 0) true ty).run E.P w= .ok (.tuple #[.bool true,.int .i64 ps,.int .i32 (qR s ps).1]) {w with heap:=w.heap.setIfInBounds r (.stringIter ⟨s.toArray⟩ (ps+(qR s ps).2))}:=by
    unfold Instr.next aE
    simp only [o4,hg,qt,hsz,hp,iE]
    rw [show Utf8.decode ⟨s.toArray⟩ ps=qR s ps from rfl]
    simp only [o4,hset,qt]
    rfl
   simp [execOp,hv,h3]
  refine⟨fun c h=>(by cases h),?_⟩
  rw [hrun]
  have hblt:=(sU.1 hb).1
  have hx' :fN (fun k=> ∃f∈[C5 r s left],f.fp k) w S {w with heap:=w.heap.setIfInBounds r (.stringIter ⟨s.toArray⟩ (ps+(qR s ps).2))} S:=
   ⟨rfl,rfl,rfl,dN _,by simp,fun k _ hk=>by
    have:r≠k:=fun e=>hk ⟨_,List.mem_singleton_self _,e.symm⟩
    simp [this],SH.le_refl _,fun _ _ _=>rfl⟩
  have hs' :ii {w with heap:=w.heap.setIfInBounds r (.stringIter ⟨s.toArray⟩ (ps+(qR s ps).2))} S:=st.sat.same fun k o hk=>by
   have:r≠k:=fun e=>by subst e;rw [hno]at hk;cases hk
   simp [this]
  have hnew:(C5 r s (rf s f (ps+(qR s ps).2))).p {w with heap:=w.heap.setIfInBounds r (.stringIter ⟨s.toArray⟩ (ps+(qR s ps).2))} S:=
   ⟨hno,_,f,by simp [hblt],rfl,by have:=Qo s ps;omega⟩
  refine h1 _ _ hl2 _ _ S ((st.turn (O1:=[C5 r s left]) (O2:=[C5 r s (rf s f (ps+(qR s ps).2))]) hx' hs' ⟨⟨hnew,fun k hk=> .inl (gx _)⟩,fun _ h=>(by cases h),trivial⟩ (fun k ⟨g,hg,hk⟩=>?_)).put hd ?_)
  ·have:g=C5 r s (rf s f (ps+(qR s ps).2)):=by simpa using hg
   subst this
   exact .inl ⟨_,List.mem_singleton_self _,hk⟩
  ·exact⟨[.bool true,.int .i64 ps,.int .i32 (qR s ps).1],rfl,iP.2 rfl,dO.2 rfl,dO.2 rfl,trivial⟩
 ·have hl2:left=[]:=by
   rw [hl]
   cases f with
   |zero=>rfl
   |succ f=>rw [rf,bg hp]
  have hrun:(execOp a.eval ⟨some d,.next x true,ty,pos,after,none⟩).run E.P w= .ok (.value (.tuple #[.bool false])) w:=by
   have h3:(Instr.next (aE r 0) true ty).run E.P w= .ok (.tuple #[.bool false]) w:=by
    unfold Instr.next aE
    simp only [o4,hg,qt,hsz,hp,iM]
    rfl
   simp [execOp,hv,h3]
  refine⟨fun c h=>(by cases h),?_⟩
  rw [hrun]
  subst hl2
  exact h0 rfl _ _ S (st.put hd ⟨[],rfl⟩)
theorem xa{t:Ty}{u:List Ty}{i:Nat}(hu:u[i]? =some t)(hx:aK E.N G x (tT u)):bW E O G ⟨dst,.extract x i,ty,pos,after,g⟩ t:=Cp hu hx
theorem SW{Z:List β→Prop}{Of:List β→List OE}{Gf:kW}(h: ∀l,Z l→(∀l2,l2.length<l.length→Z l2→LG E Q c (Of l2) Gf)→LG E Q c (Of l) Gf)(l:List β)(hz:Z l):LG E Q c (Of l) Gf:=by
 have key: ∀(n:Nat) (l:List β),l.length≤n→Z l→LG E Q c (Of l) Gf:=by
  intro n
  induction n with
  |zero=>intro l hn hz;exact h l hz fun l2 h2 _=>absurd h2 (by omega)
  |succ n ih=>intro l hn hz;exact h l hz fun l2 h2 hz2=>ih l2 (by omega) hz2
 exact key l.length l (dN _) hz
end

abbrev NG:=Nat→(Option Nat×Nat)×(Nat→Option Nat×Nat)
inductive NPl where
 |o
 |i (k:Nat)
 |l (k j:Nat)
section
def S5(q:Nat→Option Nat×Nat)(zs:List (List α)):List Value:=zs.mapIdx fun j z=>aD (q j).1 (q j).2 z.length
def hd1(prj:β→List (List α))(g:NG)(x:List β):List Value:=x.mapIdx fun k y=>aD (g k).1.1 (g k).1.2 (prj y).length
def nsB(prj:β→List (List α))(l:Option Nat)(g:NG)(x:List β)(h:Option (Nat×Nat)):NPl→Option Nat
 | .o=>l
 | .i k=>(x[k]?).bind fun _=>(g k).1.1
 | .l k j=>if h=some (k,j)then none else((x[k]?).bind fun y=>(prj y)[j]?).bind fun _=>((g k).2 j).1
structure nstP(prj:β→List (List α))(r:Rp α)(T1 T2 T3:TypeId)(l:Option Nat)(cap n:Nat)(g:NG)(x:List β)(h:Option (Nat×Nat))(w:World)(S:SH):Prop where
 len:x.length=n
 out:Bm false rV T1 l cap (hd1 prj g x) w S
 inn: ∀k y,x[k]? =some y→Bm false rV T2 (g k).1.1 (g k).1.2 (S5 (g k).2 (prj y)) w S
 lvs: ∀k y j z,x[k]? =some y→(prj y)[j]? =some z→h≠some (k,j)→Bm true r T3 ((g k).2 j).1 ((g k).2 j).2 z w S
 inj: ∀s t b,nsB prj l g x h s=some b→nsB prj l g x h t=some b→s=t
variable{prj:β→List (List α)}{T1 T2 T3:TypeId}{l:Option Nat}{g:NG}{x:List β}{h:Option (Nat×Nat)}
end
section
variable{prj:β→List (List α)}{T1 T2 T3:TypeId}{l:Option Nat}{g:NG}{x:List β}{h:Option (Nat×Nat)}
variable{ty:TypeId}{gd:Option (Nat×Bool)}
open Classical in
noncomputable def Vo(w:World)(S:SH)(P:Nat→Prop):SH:=fun b=>if P b then w.heap[b]? else S b
def g0(hs:List (Option Nat×Nat)):NG:=fun k=>(hs.getD k (none,0),fun _=>(none,0))
def tsB(l:Option Nat)(q:Nat→Option Nat×Nat)(zs:List (List α))(h:Option Nat):Option Nat→Option Nat
 |none=>l
 |some j=>if h=some j then none else(zs[j]?).bind fun _=>(q j).1
structure rowP(r:Rp α)(T2 T3:TypeId)(l:Option Nat)(cap n:Nat)(q:Nat→Option Nat×Nat)(zs:List (List α))(h:Option Nat)(w:World)(S:SH):Prop where
 len:zs.length=n
 inn:Bm false rV T2 l cap (S5 q zs) w S
 lvs: ∀j z,zs[j]? =some z→h≠some j→Bm true r T3 (q j).1 (q j).2 z w S
 inj: ∀s t b,tsB l q zs h s=some b→tsB l q zs h t=some b→s=t
variable{q:Nat→Option Nat×Nat}{zs:List (List α)}{k:Option Nat}
end
end Go.Proofs.YtnmjbolollcokaaGreatDoor

