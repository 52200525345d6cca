/- cN of this claim: W28, W30, W31, W32, W33, W34, W35, W36, W37, W38, W39, W40, W48, W50, W51. -/
import Derived.Test.YtnmjbolollcokaaGreatDoorRaV2
import Derived.MapKept
import Derived.Scope
import Derived.ChangeKeysEq
import Derived.Lib.Bytealg
import Derived.Maps.Range
import Derived.Laws.IdiomRangeMap
import Derived.Test.YtnmjbolollcokaaGreatDoorRaV1
import Derived.Laws.BytesString
import Derived.Below
set_option linter.all false
namespace Go.Proofs.YtnmjbolollcokaaGreatDoor
open Go

variable{β α:Type}{b:Nat}{c:Code}{d:Nat}{e:Exit}{k:Nat}{r:Rp α}{x:Operand}{y:β}
theorem Kd [Inhabited α]{c b:Bool}{x:Option α}{k:α→Option β}{d:Option β}{r:β}(h:c=true→(if b=true then x.bind k else d)=some r): ∃y,((c&&b)=true→x=some y∧k y=some r)∧(c=true→b=false→d=some r):=by
 cases c with
 |false=>exact⟨default,fun e=>(by cases e),fun e=>(by cases e)⟩
 |true=>
  obtain⟨y,h1,h2⟩:=og (h rfl)
  exact⟨y,fun e=>h1 e,fun _ e=>h2 e⟩
def qC{κ β:Type} [DecidableEq κ]:List (κ×β)→κ→Option β
 |[],_=>none
 |p::m,k=>if p.1=k then some p.2 else qC m k
def eK{κ β:Type} [DecidableEq κ]:List (κ×β)→κ→β→List (κ×β)
 |[],k,v=>[(k,v)]
 |p::m,k,v=>if p.1=k then(k,v)::m else p::eK m k v
def A2{κ:Type}(P:Program)(kt:TypeId)(kv:κ→Value):Prop:= ∃d,P.underlying kt=some d∧(∀a,MapKept.IsKey d (kv a))∧ ∀a b,kv a=kv b→a=b
def Ma(k:IntKind)(n:Int):Value:= .int k n
variable{P:Program}{a:Act}{kt:TypeId}
theorem fR{k:IntKind}(h:P.underlying kt=some (.int k)):A2 P kt (Ma k):=⟨_,h,fun _=>rfl,fun a b e=>by injection e⟩
structure MV(β:Type) where
 p:World→SH→β→Option Nat×Nat→Value→Prop
 here: ∀{w S y o v},p w S y o v→ ∀j,o.1=some j→j<w.heap.size
 kept: ∀{C w w' S S' y o v},p w S y o v→dV C w S w' S' →(∀j,o.1=some j→ ¬C j)→p w' S' y o v
def vc{β:Type}(ty:β→Ty):MV β where
 p:=fun _ S y o v=>o.1=none∧(ty y).p S v
 here:=fun h j hj=>by rw [h.1]at hj;cases hj
 kept:=fun h k _=>⟨h.1,(ty _).mono k.keep h.2⟩
variable{S S' :SH}{V:MV β}{f:FuncId}{κ:Type}{kv:κ→Value}{m:List (κ×β)}{o:Oper}{os:List (Option Nat×Nat)}{q:Rp β}{v:Value}{w w' :World}{xs:List α}
section
variable [DecidableEq κ]{d:TypeDesc}{k:κ}
def rq(V:MV β)(kv:κ→Value)(w:World)(S:SH)(h:Option κ):List MapEntry→List (Option Nat×Nat)→List (κ×β)→Prop
 |[],[],[]=>True
 |e::es,o::os,q::m=>e.key=kv q.1∧(if h=some q.1 then o.1=none else V.p w S q.2 o e.val)∧(∀o' ∈os,∀j,o.1=some j→o'.1≠some j)∧(∀p∈m,p.1≠q.1)∧rq V kv w S h es os m
 |_,_,_=>False
theorem xX{h:Option κ}: ∀{es:List MapEntry} {os:List (Option Nat×Nat)} {m:List (κ×β)},rq V kv w S h es os m→ ∀o∈os,∀j,o.1=some j→j<w.heap.size
 |[],[],[],_,o,ho,_,_=>by cases ho
 |e::es,o::os,q::m,⟨_,h2,_,_,h5⟩,o',ho,j,hj=>by
  rcases fS.1 ho with rfl|ho
  ·split at h2
   ·rw [h2]at hj;cases hj
   ·exact V.here h2 j hj
  ·exact xX h5 o' ho j hj
theorem td{C:Nat→Prop}(k:dV C w S w' S'){h:Option κ}: ∀{es:List MapEntry} {os:List (Option Nat×Nat)} {m:List (κ×β)},rq V kv w S h es os m→(∀o∈os,∀j,o.1=some j→ ¬C j)→rq V kv w' S' h es os m
 |[],[],[],_,_=>trivial
 |e::es,o::os,q::m,⟨h1,h2,h3,h4,h5⟩,hC=>⟨h1,by
  split
  ·rename_i hh;rw [cO hh]at h2;exact h2
  ·rename_i hh;rw [cQ hh]at h2;exact V.kept h2 k (hC o (oQ ..)),h3,h4,td k h5 fun o' ho=>hC o' (oy _ ho)⟩
theorem uU{h:Option κ}: ∀{es:List MapEntry} {os:List (Option Nat×Nat)} {m:List (κ×β)},rq V kv w S h es os m→(∀p∈m,h≠some p.1)→rq V kv w S none es os m
 |[],[],[],_,_=>trivial
 |e::es,o::os,q::m,⟨h1,h2,h3,h4,h5⟩,hk=>⟨h1,by
  rw [cQ (hk q (oQ ..))]at h2
  rw [cQ (by simp)];exact h2,h3,h4,uU h5 fun p hp=>hk p (oy _ hp)⟩
theorem mG(hd: ∀a,MapKept.IsKey d (kv a))(hi: ∀a b,kv a=kv b→a=b)(a b:κ):Instr.sameNow d (kv a) (kv b)=some (decide (a=b)):=by
 obtain⟨r,h1,h2⟩:=MapKept.sameNow_of_keys (hd a) (hd b)
 rw [h1]
 by_cases h:a=b
 ·subst h;rw [h2.2 rfl];simp
 ·rw [yn h]
  cases r with
  |false=>rfl
  |true=>exact absurd (hi _ _ (h2.1 rfl)) h
theorem pJ(hd: ∀a,MapKept.IsKey d (kv a))(hi: ∀a b,kv a=kv b→a=b): ∀{es:List MapEntry} {os:List (Option Nat×Nat)} {m:List (κ×β)} (i:Nat),rq V kv w S none es os m→
  ∃os',(∀x∈os',x∈os∨x.1=none)∧rq V kv w S (some k) es os' m∧
   ((qC m k=none∧Instr.findNow d (kv k) es i=some none)∨ ∃(y:β) (o:Option Nat×Nat) (e:MapEntry) (j:Nat),qC m k=some y∧o∈os∧V.p w S y o e.val∧Instr.findNow d (kv k) es i=some (some (j,e.val))∧ ∀x∈os',∀q,o.1=some q→x.1≠some q)
 |[],[],[],i,_=>⟨[],fun x hx=>(by cases hx),trivial,.inl ⟨rfl,rfl⟩⟩
 |e::es,o::os,q::m,i,⟨h1,h2,h3,h4,h5⟩=>by
  rw [cQ (by simp)]at h2
  by_cases hk:q.1=k
  ·refine⟨(none,0)::os,fun x hx=>?_,⟨h1,by rw [cO (by rw [hk])],fun _ _ _ hj=>(by cases hj),h4,?_⟩,.inr ⟨q.2,o,e,i,by unfold qC;rw [cO hk],oQ ..,h2,?_,fun x hx j hj=>?_⟩⟩
   ·rcases fS.1 hx with rfl|hx
    ·exact .inr rfl
    ·exact .inl (oy _ hx)
   ·have: ∀{es:List MapEntry} {os:List (Option Nat×Nat)} {m:List (κ×β)},rq V kv w S none es os m→(∀p∈m,p.1≠k)→rq V kv w S (some k) es os m:=by
     intro es
     induction es with
     |nil=>intro os m h _;cases os<;>cases m<;>first|trivial|exact h.elim
     |cons e es ih=>
      intro os m h hm
      cases os with
      |nil=>cases m<;>exact h.elim
      |cons o os=>
       cases m with
       |nil=>exact h.elim
       |cons q m=>
        obtain⟨g1,g2,g3,g4,g5⟩:=h
        rw [cQ (by simp)]at g2
        exact⟨g1,by rw [cQ (fun e=>hm q (oQ ..) (kI e).symm)];exact g2,g3,g4,ih g5 fun p hp=>hm p (oy _ hp)⟩
    exact this h5 (fun p hp=>by rw [←hk];exact h4 p hp)
   ·unfold Instr.findNow
    rw [h1,mG hd hi,hk,xi rfl]
   ·rcases fS.1 hx with rfl|hx
    ·exact fun e=>by cases e
    ·exact h3 x hx j hj
  ·obtain⟨os',g1,g2,g3⟩:=pJ hd hi (i+1) h5
   refine⟨o::os',fun x hx=>?_,⟨h1,by rw [cQ (fun e=>hk (kI e).symm)];exact h2,fun o' ho' j hj=>?_,h4,g2⟩,?_⟩
   ·rcases fS.1 hx with rfl|hx
    ·exact .inl (oQ ..)
    ·exact(g1 x hx).imp (oy _) id
   ·rcases g1 o' ho' with h|h
    ·exact h3 o' h j hj
    ·rw [h];exact fun e=>by cases e
   ·have hf:Instr.findNow d (kv k) (e::es) i=Instr.findNow d (kv k) es (i+1):=by
     conv=>lhs;unfold Instr.findNow
     rw [h1,mG hd hi,yn (fun e=>hk e.symm)]
    have hm:qC (q::m) k=qC m k:=by conv=>lhs;unfold qC;rw [cQ hk]
    rw [hf,hm]
    refine g3.imp id fun⟨y,o1,e1,j,f1,f2,f3,f4,f5⟩=>⟨y,o1,e1,j,f1,oy _ f2,f3,f4,fun x hx q hq=>?_⟩
    rcases fS.1 hx with rfl|hx
    ·exact fun e=>h3 o1 f2 q e hq
    ·exact f5 x hx q hq
theorem Az(x:α)(xs:List α)(j:Nat)(f:α→α):(x::xs).modify (j+1) f=x::xs.modify j f:=by simp [List.modify_succ_cons]
theorem xY(hd: ∀a,MapKept.IsKey d (kv a))(hi: ∀a b,kv a=kv b→a=b){y:β}{o:Option Nat×Nat}{v:Value}{born:Nat}(hv:V.p w S y o v): ∀{es:List MapEntry} {os:List (Option Nat×Nat)} {m:List (κ×β)} (i:Nat),rq V kv w S (some k) es os m→(∀o' ∈os,∀j,o.1=some j→o'.1≠some j)→
    ∃os',(∀x∈os',x∈os∨x=o)∧
      ((∃(j:Nat) (e:MapEntry),Instr.findNow d (kv k) es i=some (some (i+j,e.val))∧es[j]? =some e∧e.key=kv k∧rq V kv w S none (es.modify j fun e=>{e with key:=kv k,val:=v}) os' (eK m k y))∨
        (Instr.findNow d (kv k) es i=some none∧rq V kv w S none (es++[⟨kv k,v,born⟩]) os' (eK m k y)))
  |[],[],[],i,_,_=>⟨[o],fun x hx=> .inr (zP.1 hx),.inr ⟨rfl,⟨rfl,by rw [cQ (by simp)];exact hv,fun _ h=>(by cases h),fun _ h=>(by cases h),trivial⟩⟩⟩
  |e::es,o1::os,q::m,i,⟨h1,h2,h3,h4,h5⟩,ha=>by
    by_cases hk:q.1=k
    · refine⟨o::os,fun x hx=>?_,.inl ⟨0,e,?_,rfl,by rw [h1,hk],?_⟩⟩
      · rcases fS.1 hx with rfl|hx
        · exact .inr rfl
        · exact .inl (oy _ hx)
      · unfold Instr.findNow
        rw [h1,mG hd hi,hk,xi rfl]
        rfl
      · unfold eK
        rw [cO hk,List.modify_zero_cons]
        exact⟨rfl,by rw [cQ (by simp)];exact hv,fun o' ho' =>ha o' (oy _ ho'),fun p hp=>by rw [←hk];exact h4 p hp,
          uU h5 fun p hp e=>h4 p hp (by rw [hk];exact(kI e).symm)⟩
    · obtain⟨os',g1,g2⟩:=xY hd hi (born:=born) hv (i+1) h5 fun o' ho' =>ha o' (oy _ ho')
      rw [cQ (fun e=>hk (kI e).symm)]at h2
      have hf:Instr.findNow d (kv k) (e::es) i=Instr.findNow d (kv k) es (i+1):=by
        conv=>lhs;unfold Instr.findNow
        rw [h1,mG hd hi,yn (fun e=>hk e.symm)]
      have hm:eK (q::m) k y=q::eK m k y:=by conv=>lhs;unfold eK;rw [cQ hk]
      have hap: ∀o' ∈os',∀j,o1.1=some j→o'.1≠some j:=fun o' ho' j hj=>by
        rcases g1 o' ho' with h|rfl
        · exact h3 o' h j hj
        · exact fun e=>ha o1 (oQ ..) j e hj
      have hne: ∀p∈eK m k y,p.1≠q.1:=by
        have: ∀m:List (κ×β),(∀p∈m,p.1≠q.1)→ ∀p∈eK m k y,p.1≠q.1:=by
          intro m
          induction m with
          |nil=>intro _ p hp;rw [zP.1 hp];exact fun e=>hk e.symm
          |cons p0 m ih=>
            intro hm p hp
            unfold eK at hp
            split at hp
            · rcases fS.1 hp with rfl|hp
              · exact fun e=>hk e.symm
              · exact hm p (oy _ hp)
            · rcases fS.1 hp with rfl|hp
              · exact hm _ (oQ ..)
              · exact ih (fun p hp=>hm p (oy _ hp)) p hp
        exact this m h4
      rw [hf,hm]
      refine⟨o1::os',fun x hx=>?_,g2.imp (fun⟨j,e',f1,f2,f3,f4⟩=>⟨j+1,e',by rw [f1];congr 3;omega,by simpa using f2,f3,?_⟩) fun⟨f1,f2⟩=>⟨f1,?_⟩⟩
      · rcases fS.1 hx with rfl|hx
        · exact .inl (oQ ..)
        · exact(g1 x hx).imp (oy _) id
      · rw [Az]
        exact⟨h1,by rw [cQ (by simp)];exact h2,hap,hne,f4⟩
      · exact⟨h1,by rw [cQ (by simp)];exact h2,hap,hne,f2⟩
theorem xW{h:Option κ}: ∀{es:List MapEntry} {os:List (Option Nat×Nat)} {m:List (κ×β)},rq V kv w S h es os m→ ∀x∈es,∃q∈m,x.key=kv q.1
 |[],[],[],_,x,hx=>by cases hx
 |e::es,o::os,q::m,⟨h1,_,_,_,h5⟩,x,hx=>by
  rcases fS.1 hx with rfl|hx
  ·exact⟨q,oQ ..,h1⟩
  ·obtain⟨q',g1,g2⟩:=xW h5 x hx
   exact⟨q',oy _ g1,g2⟩
theorem DX(hd: ∀a,MapKept.IsKey d (kv a)){h:Option κ}{es:List MapEntry}{i:Nat}(h4:rq V kv w S h es os m)(g1:Instr.findNow d (kv k) es i=some none){x:MapEntry}(hx:x∈es):x.key≠kv k:=by
 rcases MapKept.findNow_spec (hd k) es i (fun y hy=>by obtain⟨q,_,e⟩:=xW h4 y hy;rw [e];exact hd _)with⟨_,h2⟩|⟨j,e,h2,_⟩
 ·exact h2 x hx
 ·rw [g1]at h2;cases h2
def lE(V:MV β)(kv:κ→Value)(b:Nat)(h:Option κ)(os:List (Option Nat×Nat))(m:List (κ×β)):OE where
 fp:=fun j=>j=b∨ ∃o∈os,o.1=some j
 p:=fun w S=>S b=none∧(∀o∈os,o.1≠some b)∧ ∃es clock,w.heap[b]? =some (.map es clock)∧rq V kv w S h es.toList os m∧MapKept.Stamped es clock
 here:=by
  intro w S ⟨_,_,es,clock,h3,h4,_⟩ j hj
  rcases hj with rfl|⟨o,ho,hj⟩
  ·exact(oc.1 h3).1
  ·exact xX h4 o ho j hj
 kept:=by
  intro C w w' S S' ⟨h1,h2,es,clock,h3,h4,hst⟩ k hC
  have hlt:=(oc.1 h3).1
  exact⟨by rw [k.old b hlt (hC b (.inl rfl))];exact h1,h2,es,clock,by rw [k.heap b hlt (hC b (.inl rfl))];exact h3,td k h4 (fun o ho j hj=>hC j (.inr ⟨o,ho,hj⟩)),hst⟩
def nB(b:Nat):Value:= .map (some b)
end
variable{E:En}{G:gW}{N:Nat}{O:List OE}{X:Type}{Q:Exit→Act→World→Prop}{T:TypeId}{after:Array Edge}{dst:Option Tmp}{et:TypeId}{fp:Nat→Prop}{g:Option (Nat×Bool)}{n:Nat}{ops:Array Oper}{pos:String}{rest:List Oper}{t:TypeId}{u:Value}{x1 x2 x3:OE}{z:List Value}{γ:β→Ty}
section
variable [DecidableEq κ]{k:κ}{i v:Operand}{dst:Option Nat}{ty:TypeId}
def Da(N:Fr)(G:gW)(x:Operand)(u:Value):Prop:= ∀S a,cN N S a G→a.eval x=u
theorem p6{N:Fr}{q:IntKind}{n:Int}(h:aL N G x (tD (rI q) n)):Da N G x (Ma q n):=fun S a hf=>dd.1 (h S a hf)
def ZV(P:Program)(T:TypeId)(z:Value):Prop:=(P.info? T).bind (·.zero)=some z
theorem ZV.run{z:Value}(h:ZV P T z)(w:World):(zeroValue T).run P w= .ok z w:=by
 unfold ZV at h
 cases hi:P.info? T with
 |none=>rw [hi]at h;cases h
 |some i=>
  rw [hi]at h
  have h' :i.zero=some z:=h
  simp [zeroValue,typeInfo,hi,h']
theorem wI(V:MV β)(kv:κ→Value)(hd:Nat.blt d E.N.n=true)(k: ∀b,RG E ops Q rest (lE V kv b none [] []::O) ((d,tV (nB b))::G)):
  RG E ops Q (⟨some d,.makeMap t none,ty,pos,after,none⟩::rest) O G:= .of rfl fun a w S st=>by
 obtain⟨he,hs',hno⟩:=dv (w:=w) (.map #[] 0) st.sat
 have hrun:(execOp a.eval ⟨some d,.makeMap t none,ty,pos,after,none⟩).run E.P w= .ok (.value (nB w.heap.size)) (w.alloc (.map #[] 0)):=by
  simp [execOp,Instr.makeMap,nB]
 refine⟨fun c h=>(by cases h),?_⟩
 rw [hrun]
 exact k w.heap.size _ _ S ⟨st.ext.step0 he,hs',kX st.own he ⟨hno,fun _ h=>(by cases h),#[],0,vA w _,trivial,MapKept.stamped_empty 0⟩ (fun b hb=>by
  rcases hb with rfl|⟨_,h,_⟩
  ·exact fG _
  ·cases h) st.base_le,st.facts.put hd rfl⟩
theorem lN{kk:Value}{es:Array MapEntry}{clock:Nat}{q:TypeDesc}{z:Value}{u:Option (Nat×Value)}(hm:P.underlying t=some (.map kt et))(hq:P.underlying kt=some q)(hk:MapKept.IsKey q kk)(hb:w.heap[b]? =some (.map es clock))(hz:ZV P et z)(hf:Instr.findNow q kk es.toList 0=some u)(c:Bool):(Instr.lookup t (nB b) kk c).run P w= .ok (if c then .tuple #[(u.map (·.2)).getD z,.bool u.isSome]else(u.map (·.2)).getD z) w:=by
 cases u with
 |none=>simp [Instr.lookup,nB,gO hm,Cq hb,Co hq hk,MapKept.run_findKey hq hf,hz.run,Result.andThen]
 |some r=>simp [Instr.lookup,nB,gO hm,Cq hb,Co hq hk,MapKept.run_findKey hq hf,Result.andThen]
theorem BM{z:β}{zv:Value}(hm:E.P.underlying t=some (.map kt et))(hk:A2 E.P kt kv)(hz:ZV E.P et zv)(hzt: ∀S,(γ z).p S zv)(hmem:lE (vc γ) kv b none os m∈O)(hx:aL E.N G x (tV (nB b)))(hi:Da E.N G i (kv k)):
  bN E O G ⟨dst,.lookup t x i false,ty,pos,after,g⟩ (γ ((qC m k).getD z)):= .of_pure fun a w S hs ho hf=>by
 obtain⟨⟨_,_,es,clock,h3,h4,_⟩,_⟩:=co.mem ho _ hmem
 obtain⟨q,hq,hd,hinj⟩:=hk
 have h1:a.eval x=nB b:=hx S a hf
 have h2:a.eval i=kv k:=hi S a hf
 obtain⟨_,_,_,h5⟩:=pJ hd hinj (k:=k) 0 h4
 rcases h5 with⟨g1,g2⟩|⟨y,o,e,j,g1,g2,g3,g4,g5⟩
 ·refine⟨zv,by simp [execOp,h1,h2,lN hm hq (hd k) h3 hz g2],by rw [g1];exact hzt S⟩
 ·refine⟨e.val,by simp [execOp,h1,h2,lN hm hq (hd k) h3 hz g4],by rw [g1];exact g3.2⟩
theorem As{z:β}{zv:Value}(hm:E.P.underlying t=some (.map kt et))(hk:A2 E.P kt kv)(hz:ZV E.P et zv)(hzt: ∀S,(γ z).p S zv)(hmem:lE (vc γ) kv b none os m∈O)(hx:aL E.N G x (tV (nB b)))(hi:Da E.N G i (kv k)):
  bN E O G ⟨dst,.lookup t x i true,ty,pos,after,g⟩ (tT [γ ((qC m k).getD z),tD rB (qC m k).isSome]):= .of_pure fun a w S hs ho hf=>by
 obtain⟨⟨_,_,es,clock,h3,h4,_⟩,_⟩:=co.mem ho _ hmem
 obtain⟨q,hq,hd,hinj⟩:=hk
 have h1:a.eval x=nB b:=hx S a hf
 have h2:a.eval i=kv k:=hi S a hf
 obtain⟨_,_,_,h5⟩:=pJ hd hinj (k:=k) 0 h4
 rcases h5 with⟨g1,g2⟩|⟨y,o,e,j,g1,g2,g3,g4,g5⟩
 ·refine⟨.tuple #[zv,.bool false],by simp [execOp,h1,h2,lN hm hq (hd k) h3 hz g2],[zv,.bool false],rfl,by rw [g1];exact hzt S,fj.2 (by rw [g1];rfl),trivial⟩
 ·refine⟨.tuple #[e.val,.bool true],by simp [execOp,h1,h2,lN hm hq (hd k) h3 hz g4],[e.val,.bool true],rfl,by rw [g1];exact g3.2,fj.2 (by rw [g1];rfl),trivial⟩
theorem tQ{kk:Value}{es:Array MapEntry}{clock:Nat}{q:TypeDesc}{val:Value}(hm:P.underlying t=some (.map kt et))(hq:P.underlying kt=some q)(hk:MapKept.IsKey q kk)(hb:w.heap[b]? =some (.map es clock)):
  (Instr.findNow q kk es.toList 0=some none→(Instr.mapUpdate t (nB b) kk val).run P w= .ok () {w with heap:=w.heap.setIfInBounds b (.map (es.push ⟨kk,val,clock⟩) (clock+1))})∧
  (∀j e,Instr.findNow q kk es.toList 0=some (some (j,e))→(∀e',es.toList[j]? =some e' →e'.key=kk)→(∃e',es.toList[j]? =some e')→(Instr.mapUpdate t (nB b) kk val).run P w= .ok () {w with heap:=w.heap.setIfInBounds b (.map (es.modify j fun e=>{e with key:=kk,val:=val}) clock)}):=by
 refine⟨fun hf=>?_,fun j e hf hj he=>?_⟩
 ·simp [Instr.mapUpdate,nB,gO hm,Cq hb,Co hq hk,MapKept.run_findKey hq hf,MapKept.run_setObj_map _ hb,Result.andThen]
 ·obtain⟨e',he'⟩:=he
  have h1:=hj e' he'
  have h2:es[j]? =some e' :=by simpa using he'
  simp [Instr.mapUpdate,nB,gO hm,Cq hb,Co hq hk,MapKept.run_findKey hq hf,MapKept.run_setObj_map _ hb,Result.andThen,h2,h1,MapKept.run_keyThatStays hk]
theorem DP{o:Option Nat×Nat}{val:Value}(hs:eR w S)(hm:E.P.underlying t=some (.map kt et))(hk:A2 E.P kt kv)(hp:(lE V kv b (some k) os m).p w S)(hv:V.p w S y o val)(hob:o.1≠some b)(hap: ∀o' ∈os,∀j,o.1=some j→o'.1≠some j):
  ∃w' os',(Instr.mapUpdate t (nB b) (kv k) val).run E.P w= .ok () w' ∧dV (fun j=>j=b) w S w' S∧eR w' S∧(lE V kv b none os' (eK m k y)).p w' S∧(∀j,(lE V kv b none os' (eK m k y)).fp j→(lE V kv b (some k) os m).fp j∨o.1=some j):=by
 obtain⟨hno,hnb,es,clock,h3,h4,hst⟩:=hp
 obtain⟨q,hq,hdk,hinj⟩:=hk
 obtain⟨os',p1,p2⟩:=xY hdk hinj (born:=clock) hv 0 h4 hap
 have hnb' : ∀o' ∈os',o'.1≠some b:=fun o' ho' =>by
  rcases p1 o' ho' with h|rfl
  ·exact hnb o' h
  ·exact hob
 have hfp: ∀j,(j=b∨ ∃o∈os',o.1=some j)→(j=b∨ ∃o∈os,o.1=some j)∨o.1=some j:=fun j hj=>by
  rcases hj with h|⟨o',ho',e⟩
  ·exact .inl (.inl h)
  ·rcases p1 o' ho' with h|rfl
   ·exact .inl (.inr ⟨o',h,e⟩)
   ·exact .inr e
 have hw: ∀X:Obj,dV (fun j=>j=b) w S {w with heap:=w.heap.setIfInBounds b X} S∧eR {w with heap:=w.heap.setIfInBounds b X} S∧({w with heap:=w.heap.setIfInBounds b X}:World).heap[b]? =some X:=fun X=>
  ⟨⟨rfl,rfl,rfl,fG _,by simp,fun j _ hj=>(MapKept.heap_set (o' :=X) h3).2 j hj,SH.le_refl _,fun _ _ _=>rfl⟩,hs.same fun j o hj=>(MapKept.heap_set (o' :=X) h3).2 j (fun e=>by subst e;rw [hno]at hj;cases hj),(MapKept.heap_set h3).1⟩
 obtain⟨r1,r2⟩:=tQ (val:=val) hm hq (hdk k) h3
 rcases p2 with⟨j,e,g1,g2,g3,g4⟩|⟨g1,g2⟩
 ·rw [rl]at g1
  obtain⟨x1,x2,x3⟩:=hw (.map (es.modify j fun e=>{e with key:=kv k,val:=val}) clock)
  refine⟨_,os',r2 j _ g1 (fun e' he' =>by rw [g2]at he';cases he';exact g3) ⟨_,g2⟩,x1,x2,⟨hno,hnb',_,_,x3,?_,MapKept.stamped_modify hst j _ (fun _ _=>rfl) (fun e' _ he' =>by rw [←Array.getElem?_toList,g2]at he';cases he';exact g3.symm)⟩,hfp⟩;refine td x1 (by rw [Array.toList_modify];exact g4) fun o' ho' j hj e=>?_
  subst e
  exact hnb' o' ho' hj
 ·obtain⟨x1,x2,x3⟩:=hw (.map (es.push ⟨kv k,val,clock⟩) (clock+1))
  refine⟨_,os',r1 g1,x1,x2,⟨hno,hnb',_,_,x3,?_,MapKept.stamped_push hst (fun x hx e=>?_)⟩,hfp⟩
  rotate_left
  ·exact DX hdk h4 g1 hx e
  refine td x1 (by rw [Array.toList_push];exact g2) fun o' ho' j hj e=>?_
  subst e
  exact hnb' o' ho' hj
end

def sd(tmps:Array Value):ResultVar→Sem Value
 | .tmp t=>pure (tmps.getD t undef)
 | .cell a t=>do loadVar t (←asAddr (tmps.getD a undef))
def C2(P:Program)(N:Fr)(G:gW)(rv:ResultVar)(t:Ty):Prop:= ∀a w S,eR w S→cN N S a G→ ∃v,(sd a.tmps rv).run P w= .ok v w∧t.p S v
theorem cJ{N:Fr}{t:Ty}(hk:look G k=some t):C2 P N G (.tmp k) t:=fun a w S _ hf=>⟨_,rfl,hf.at_ k t hk⟩
variable{U:TypeId}{agg:Bool}{bytes off sz:Nat}
theorem d7{N:Fr}{x:α}(ti:TI P T sz bytes agg z)(hsz:r.sz=sz)(hag:r.agg=agg)(hk:look G k=some (bl r x)):C2 P N G (.cell k T) (tD r x):=fun a w S hs hf=>by
 obtain⟨b,off,c,U,fr,h1,h2,h3⟩:=hf.at_ k _ hk
 obtain⟨c',h4,h5⟩:=hs.part h2 (r.len h3)
 rw [←h5]at h3
 have hl:=fI ti h4 hsz hag h3
 have h1' :a.tmps[k]?.getD undef=Value.pointer (some ⟨b,off,none⟩):=by simpa [yy] using h1
 exact⟨_,by simp [sd,h1',asAddr,hl],_,rfl,h3⟩
def Eb(P:Program)(N:Fr)(G:gW):List ResultVar→List Ty→Prop
 |[],[]=>True
 |rv::rvs,t::ts=>C2 P N G rv t∧Eb P N G rvs ts
 |_,_=>False
variable{ts:List Ty}
theorem Eb.run{N:Fr}(hs:eR w S)(hf:cN N S a G): ∀{rvs:List ResultVar} {ts:List Ty},Eb P N G rvs ts→ ∃vs,(rvs.mapM (sd a.tmps)).run P w= .ok vs w∧p7 S ts vs∧vs.length=rvs.length
 |[],[],_=>⟨[],rfl,trivial,rfl⟩
 |rv::rvs,t::ts,⟨h1,h2⟩=>by
  obtain⟨v,g1,g2⟩:=h1 a w S hs hf
  obtain⟨vs,k1,k2,k3⟩:=Eb.run hs hf h2
  exact⟨v::vs,by simp [List.mapM_cons,g1,k1,Result.andThen],⟨g2,k2⟩,by simp [k3]⟩
variable{B:Nat→Prop}{S0:SH}{fn:Func}{w0:World}
theorem jQ{rvs:List ResultVar}(hr:fn.results=rvs.toArray)(h1:Nat.beq rvs.length 1=false)(h:Eb P ⟨N,[]⟩ G rvs ts):
  AT ⟨P,⟨N,[]⟩,B,w0,S0,none⟩ (bodyPost P fn (AK ⟨P,⟨N,[]⟩,B,w0,S0,none⟩ (tT ts))) .ret O G:=fun a w S st=>by
 obtain⟨vs,k1,k2,k3⟩:=h.run st.sat st.facts
 have hne: ¬vs.length=1:=by rw [k3];intro e;rw [e]at h1;cases h1
 refine⟨st.facts.defers,.tuple vs.toArray,?_,_,S,rfl,st.ext,st.sat,vs,rfl,k2⟩
 have e1:(fn.results.mapM (sd a.tmps)).run P w= .ok vs.toArray w:=by
  rw [hr,List.mapM_toArray,Sem.run_map,k1]
  rfl
 have e3:results fn a.tmps=((fn.results.mapM (sd a.tmps))>>=fun vs=>pure (if h:vs.size=1 then vs[0]else .tuple vs)):=rfl
 rw [e3,mS,e1]
 simp [Result.andThen,hne]

variable{cap:Nat}{cs:List Value}
theorem EL(h:(tD (dG r) xs).p S v):(dG r).rc S [v] xs:=by
 obtain⟨cs,e,h2⟩:=h
 obtain⟨a,cap,e2,h3⟩:=h2
 subst e2
 rw [e]
 exact⟨a,cap,rfl,h3⟩
variable{base:Nat}
section
variable{ty:TypeId}
theorem jI{r:Rp β}{get:β→Value}{x:β}{p:Operand}{l:Option Nat}(ti:TI E.P U 1 bytes false z)(hget:ib r off rV get)(hm:bx r T b x∈O)(hv:get x=aC l cap n)(hp:aL E.N G p (tV (aE b off))):
  bN E O G ⟨dst,.load U p,ty,pos,after,g⟩ (tV (aC l cap n)):=(aW (q:=rV) ti rfl rfl hget hm hp).imp fun _ _ h=>by rw [←hv];exact(oZ.1 h).1
theorem lB{q:Rp α}{r:Rp β}{get:β→Value}{x:β}{V:TypeId}{p:Operand}{l:Option Nat}(ti:TI E.P U 1 bytes false z)(hget:ib r off rV get)(hm:bx r T b x∈O)(hm2:bV q V l cap xs∈O)(hv:get x=aC l cap xs.length)(hp:aL E.N G p (tV (aE b off))):
  bN E O G ⟨dst,.load U p,ty,pos,after,g⟩ (tO q l cap xs):=fun a w S hs ho hf=>
 jH (fun _ _ ⟨v,S',h1,h2,h3,h4⟩=>⟨v,S',h1,h2,h3,h4,by
  have h5:v=aC l cap xs.length:=h4
  rw [h5]
  exact kN (((ho.ext0 h2).mem _ hm2).1)⟩) (jI (g:=g) (ty:=ty) (pos:=pos) (after:=after) (dst:=dst) ti hget hm hv hp a w S hs ho hf)
theorem gG{i o:Nat}{p:Operand}(hf:bJ E.P T i=some (off,sz))(h0:Nat.beq sz 0=false)(hp:aL E.N G p (tV (aE b o)))(he:o+off=n):bN E O G ⟨dst,.fieldAddr T p i,ty,pos,after,g⟩ (tV (aE b n)):=by
 subst he
 exact xc hf h0 hp
theorem m5{q:Rp α}{r:Rp β}{x:β}{y:α}{p:Operand}(ti:TI E.P U sz bytes agg z)(hsz:q.sz=sz)(hag:q.agg=agg)(hag2:r.agg=agg)(hsz2:r.sz=sz)(hm:bx r T b x∈O)(hc: ∀w S cs,co E.base E.B w S O→r.rc S cs x→q.rc S cs y)(hp:aL E.N G p (tV (aE b 0))):
  bN E O G ⟨dst,.load U p,ty,pos,after,g⟩ (tD q y):= .of_pure fun a w S _ ho hf=>by
 have h1:a.eval p=aE b 0:=hp S a hf
 obtain⟨⟨_,cur,h5,h6⟩,_⟩:=ho.mem _ hm
 have h7:=hc w S _ ho h6
 have hl:=q.len h7
 have h8:q.rc S ((cur.toList.drop 0).take q.sz) y:=by rw [Ba,yw (by omega)];exact h7
 exact⟨_,by simp [execOp,h1,aE,Instr.loadAt,Instr.sureAddr,fI ti h5 hsz hag h8],_,rfl,h8⟩
theorem q9{q:Rp α}{V:TypeId}{l:Option Nat}(ho:co base B w S O)(hm:bV q V l cap xs∈O):(dG q).rc S [aC l cap xs.length] xs:=EL (kN (ho.mem _ hm).1)
end
def nl{α β γ:Type}(r:Rp α)(r' :Rp γ)(off:Nat)(q:Rp β)(x:α)(y:β)(x' :γ):Prop:= ∀S cs ds,r.rc S cs x→q.rc S ds y→r'.rc S (cs.take off++ds++cs.drop (off+q.sz)) x'
variable{set:α→β→α}
theorem o5{x:α}(h:dU r off q set):nl r r off q x y (set x y):=fun S cs ds h1 h2=>h S cs x ds y h1 h2
theorem kr{γ:Type}{r' :Rp γ}{x:α}{y:γ}(hs:r.sz=r'.sz):nl r r' 0 r' x y y:=fun S cs ds h1 h2=>by
 have hl:=r.len h1
 rw [List.take_zero,u3,Dk (by omega),List.append_nil]
 exact h2
theorem vk{α' γ:Type}{p:Rp α}{p' :Rp α'}{x:α×β}{y:γ}{u:Rp γ}{x1:α'}(h:nl p p' 0 u x.1 y x1)(hu:Nat.ble u.sz p.sz=true):nl (bP p q) (bP p' q) 0 u x y (x1,x.2):=fun S cs ds ⟨a,b,e,h1,h2⟩ hd=>by
 have hl:=p.len h1
 have hu' :=kD hu
 have h3:=h S a ds h1 hd
 subst e
 rw [List.take_zero,u3,rl,Ew (by omega),←yo]
 rw [List.take_zero,u3,rl]at h3
 exact⟨_,_,rfl,h3,h2⟩
theorem eb{β' γ:Type}{p:Rp α}{q' :Rp β'}{x:α×β}{y:γ}{u:Rp γ}{off' :Nat}{x2:β'}(h:nl q q' off u x.2 y x2)(ho:off' =p.sz+off):nl (bP p q) (bP p q') off' u x y (x.1,x2):=fun S cs ds ⟨a,b,e,h1,h2⟩ hd=>by
 have hl:=p.len h1
 have h3:=h S b ds h2 hd
 subst e ho
 refine⟨a,_,?_,h1,h3⟩
 have e1:p.sz+off-a.length=off:=by omega
 have e2:p.sz+off+u.sz-a.length=off+u.sz:=by omega
 rw [List.take_append,List.drop_append,yw (by omega),Dk (by omega),e1,e2]
 simp
theorem sE{α' β' γ:Type}{p:Rp α}{p' :Rp α'}{f:β→α}{f' :β' →α'}{x:β}{x' :β'}{y:γ}{u:Rp γ}{z:α'}(h:nl p p' off u (f x) y z)(e:f' x' =z):nl (il p f) (il p' f') off u x y x' :=fun S cs ds h1 h2=>by
 show p'.rc S _ (f' x')
 rw [e]
 exact h S cs ds h1 h2
section
variable{ty:TypeId}
theorem iD{γ:Type}{r' :Rp γ}{x:α}{x' :γ}{p v:Operand}(ti:TI E.P U sz bytes agg z)(hsz:q.sz=sz)(hset:nl r r' off q x y x')(hoff:Nat.ble (off+q.sz) r.sz=true)(hp:aL E.N G p (tV (aE b off)))(hv:aL E.N G v (tD q y))(k:RG E ops Q rest (bx r' T b x' ::O) G):RG E ops Q (⟨none,.store U p v,ty,pos,after,none⟩::rest) (bx r T b x::O) G:= .of rfl fun a w S st=>by
 have h1:a.eval p=aE b off:=hp S a st.facts
 obtain⟨ds,h2,h3⟩:=hv S a st.facts
 obtain⟨⟨hno,cur,h5,h6⟩,_⟩:=st.own.1
 have hl:=r.len h6
 have hoff' :=kD hoff
 obtain⟨w',hr,e1,e2,e3,e4,e5,e6⟩:=f8 ti hsz h3 h5 (off:=off) (by simp at hl;omega)
 have hrun:(execOp a.eval ⟨none,.store U p v,ty,pos,after,none⟩).run E.P w= .ok .skip w' :=by
  simp [execOp,h1,h2,Instr.storeAt,aE,Instr.sureAddr,hr]
 refine⟨fun c h=>(by cases h),?_⟩
 rw [hrun]
 obtain⟨g1,g2,g3⟩:=lz (O:=O) st.sat (bx r T b x) (bx r' T b x') st.own (fun _=>Iff.rfl) (fun _=>Iff.rfl) ⟨e1,e2,e3,e4.1,e4.2⟩ e6 ⟨hno,_,e5,by simpa using hset S _ _ h6 h3⟩ hno
 exact k _ _ S ⟨st.ext.step g1 (fun c hc=>st.own.1.2 c hc),g2,g3,st.facts⟩
end

section
variable{b:Frame}{k:List Item}{cs:List Frame}{F:Fence}
theorem kq:step P (lone (b.atR a (.code (.scope c)::k)) cs w)= .next (lone (b.atR a (.code c:: .inScope c::k)) cs w):=
 step_lone_go (by simp [stepG,stepG.exec,Frame.atR])
theorem wZ:step P (lone (b.atR a (.inScope c::k)) cs w)= .next (lone (b.atR a k) cs w):=
 step_lone_go (by simp [stepG,stepG.exec,Frame.atR])
theorem Bp(h:c.wpIn F n P (Exit.noGoto Q) a w):(Code.scope c).wpIn F n P Q a w:=by
 intro b k cs hro hb hr
 have h0:(lone (b.atR a (.code (.scope c)::k)) cs w).fenced P F:=fenced_calm hb hr rfl
 obtain⟨e,a₁,w₁,hq,harr⟩:=h b (.inScope c::k) cs hro hb hr
 cases e with
 |normal=>exact⟨.normal,a₁,w₁,hq,.head h0 kq (StepsIn.trans harr (.one (fenced_calm hb hr rfl) wZ))⟩
 |exit id=>
  have hx:exitTo id (.inScope c::k)=exitTo id k:=by simp [exitTo]
  exact⟨.exit id,a₁,w₁,hq,fun k' hk=> .head h0 kq (harr.1 k' (by rw [hx];exact hk)),
   fun hr' hk=>let⟨k₁,h1,h2⟩:=harr.2 hr' (by rw [hx];exact hk);⟨k₁,h1,.head h0 kq h2⟩⟩
 |goto l=>exact hq.elim
 |ret=>exact⟨_,a₁,w₁,hq,.of_steps (.one h0 kq) harr⟩
 |panic ch=>exact⟨_,a₁,w₁,hq,.of_steps (.one h0 kq) harr⟩
 |outgrown=>exact⟨_,a₁,w₁,hq,.of_steps (.one h0 kq) harr⟩
end
section
theorem FU(h:CG E (Exit.noGoto Q) c O G):CG E Q (.scope c) O G:=fun a w S st=>Bp (h a w S st)
theorem FV{l:Nat}(h:AT E Q .normal O G):CG E Q (.label l) O G:=fun a w S st=>wpIn_label (h a w S st)
theorem yk(h:AT E Q .ret O G):AT E (Exit.noGoto Q) .ret O G:=h
end

theorem zb [Inhabited α]{m i:Nat}(h:i<m):ib (oF r m) (i*r.sz) r (fun x=>(x[i]?).getD default):=fun S cs x ⟨h1,h2⟩=>by
 have hi:x[i]? =some ((x[i]?).getD default):=by rw [oV (by omega)];rfl
 exact vn h2 hi
theorem Hm [DecidableEq α] [Inhabited α]{m t e:Nat}(ht:P.underlying t=some (.array m e))(ti:TI P e sz bytes agg z)(hsz:r.sz=sz)(hag:r.agg=agg)(he:jR P e r n):jR P t (oF r m) (n+1):=fun S cs ds x y d w hx hy=>by
 obtain⟨i,zv,hi,hs,_⟩:=ti.get
 have hcell:P.cellsOf e=r.sz:=by unfold Program.cellsOf;rw [hi];simp [hs,hsz]
 have e1:(oF r m).val cs= .agg cs.toArray:=rfl
 have e2:(oF r m).val ds= .agg ds.toArray:=rfl
 rw [e1,e2,show d+(n+1)=(d+n)+1 from rfl,run_equalIn_array w (d+n) cs.toArray ds.toArray ht hi,List.range_eq_range',hcell]
 have key: ∀k j,j+k=m→(Op.eqItems (d+n) e r.sz cs.toArray ds.toArray (List.range' j k)).run P w= .ok (decide (x.drop j=y.drop j)) w:=by
  intro k
  induction k with
  |zero=>
   intro j hj
   rw [Dk (by have:=hx.1;omega),Dk (by have:=hy.1;omega)]
   rfl
  |succ k ih=>
   intro j hj
   have hjx:j<x.length:=by have:=hx.1;omega
   have hjy:j<y.length:=by have:=hy.1;omega
   have h1:=mH ti hsz hag (zb (r:=r) (m:=m) (i:=j) (by omega)) hx w
   have h2:=mH ti hsz hag (zb (r:=r) (m:=m) (i:=j) (by omega)) hy w
   have h3:=he S _ _ _ _ d w (zb (r:=r) (m:=m) (i:=j) (by omega) S cs x hx) (zb (r:=r) (m:=m) (i:=j) (by omega) S ds y hy)
   rw [List.range'_succ]
   unfold Op.eqItems
   simp only [mS,h1,h2,h3,oa]
   have ex:x.drop j=(x[j]?).getD default::x.drop (j+1):=by rw [oV hjx];exact yx hjx
   have ey:y.drop j=(y[j]?).getD default::y.drop (j+1):=by rw [oV hjy];exact yx hjy
   rw [ex,ey]
   by_cases hq:(x[j]?).getD default=(y[j]?).getD default
   ·simp only [hq,decide_true,vy,Bc,sv]
    rw [ih (j+1) (by omega)]
    congr 1
    simp
   ·simp [hq]
 have:=key m 0 (by omega)
 simpa using this
variable{ys:List α}
section
variable{ty:TypeId}
theorem ub{xs:List Operand}{m sz' bytes' :Nat}{agg' :Bool}{z' :List Value}(ht:E.P.underlying t=some (.array m T))(ti:TI E.P T sz bytes agg z)(hsz:r.sz=sz)(tj:TI E.P t sz' bytes' agg' z')(hz:z'.length=m*r.sz)(hm:m=ys.length)(hx:fz E.N G xs (ys.map (tD r))):bN E O G ⟨dst,.build t (rG 0 xs).toArray,ty,pos,after,g⟩ (tD (oF r m) ys):=
 .of_pure fun a w S _ _ hF=>by
  obtain⟨zv,hzr,hzc⟩:=tj.zero w
  obtain⟨cs,hc,hfill⟩:=wq ys (xs.map a.eval) 0 [] z' (hx.tys hF) (by simp) (by rw [hz,hm])
  subst hsz
  have hparts:((rG 0 xs).toArray.map fun(i,x)=>(i,a.eval x)).toList=uT 0 (xs.map a.eval):=by simpa using uk a.eval 0 xs
  rw [u3,u3]at hfill
  refine⟨.agg cs.toArray,?_,cs,rfl,hm.symm,hc⟩
  simp only [execOp,Instr.build,mS,hzr,oa,gO ht,ti.sizeOf,hzc,hparts,hfill]
  simp
end

def qf(N:Nat):List Nat→List Oper→Bool
 |_,[]=>true
 |seen,o::rest=>match o.dst with
  |some d=>Nat.blt d N&& !(seen.any (Nat.beq d))&&qf N (d::seen) rest
  |none=>qf N seen rest
theorem uE(l:List Oper): ∀(seen:List Nat),qf N seen l=true→
  (∀o:Oper,o∈l→ ∀d,o.dst=some d→d<N∧d∉seen)∧ ∀(i j:Nat) (o p:Oper) (d:Nat),l[i]? =some o→l[j]? =some p→o.dst=some d→p.dst=some d→i=j:=by
 induction l with
 |nil=>exact fun _ _=>⟨fun _ h=>(by cases h),fun _ _ _ _ _ h=>(by simp at h)⟩
 |cons o l ih=>
  intro seen h
  unfold qf at h
  cases hd:o.dst with
  |none=>
   rw [hd]at h
   obtain⟨h1,h2⟩:=ih seen h
   refine⟨fun q hq d hqd=>?_,fun i j p q d hi hj hp hq=>?_⟩
   ·rcases fS.1 hq with rfl|hq
    ·rw [hd]at hqd;cases hqd
    ·exact h1 q hq d hqd
   ·cases i with
    |zero=>simp at hi;subst hi;rw [hd]at hp;cases hp
    |succ i=>
     cases j with
     |zero=>simp at hj;subst hj;rw [hd]at hq;cases hq
     |succ j=>rw [h2 i j p q d (by simpa using hi) (by simpa using hj) hp hq]
  |some d0=>
   rw [hd]at h
   simp only [jz,oA,Bool.not_eq_true']at h
   obtain⟨⟨g1,g2⟩,g3⟩:=h
   obtain⟨h1,h2⟩:=ih (d0::seen) g3
   have hns:d0∉seen:=fun hm=>by
    have:seen.any (Nat.beq d0)=true:=vD.2 ⟨d0,hm,Nat.beq_refl d0⟩
    rw [this]at g2;cases g2
   refine⟨fun q hq d hqd=>?_,fun i j p q d hi hj hp hq=>?_⟩
   ·rcases fS.1 hq with rfl|hq
    ·rw [hd]at hqd;cases hqd;exact⟨g1,hns⟩
    ·obtain⟨k1,k2⟩:=h1 q hq d hqd
     exact⟨k1,fun hm=>k2 (oy _ hm)⟩
   ·cases i with
    |zero=>
     cases j with
     |zero=>rfl
     |succ j=>
      simp at hi;subst hi
      rw [hd]at hp;cases hp
      exact absurd (oQ ..) (h1 q (pX (by simpa using hj)) d0 hq).2
    |succ i=>
     cases j with
     |zero=>
      simp at hj;subst hj
      rw [hd]at hq;cases hq
      exact absurd (oQ ..) (h1 p (pX (by simpa using hi)) d0 hp).2
     |succ j=>rw [h2 i j p q d (by simpa using hi) (by simpa using hj) hp hq]
def Ap:List Oper→List Ty→gW→gW
 |o::l,t::ts,G=>match o.dst with
  |some d=>(d,t)::Ap l ts G
  |none=>Ap l ts G
 |_,_,G=>G
theorem xM(l:List Oper): ∀(ts:List Ty) (k:Nat) (t:Ty),ts.length=l.length→look (Ap l ts G) k=some t→
  (∃(j:Nat) (o:Oper),l[j]? =some o∧o.dst=some k∧ts[j]? =some t)∨(look G k=some t∧ ∀o:Oper,o∈l→o.dst≠some k):=by
 induction l with
 |nil=>
  intro ts k t hl h
  have:ts=[]:=tG (by simpa using hl)
  subst this
  exact .inr ⟨h,fun _ h=>(by cases h)⟩
 |cons o l ih=>
  intro ts k t hl h
  cases ts with
  |nil=>simp at hl
  |cons u ts=>
   unfold Ap at h
   have hl' :ts.length=l.length:=by simpa using hl
   have lift:((∃(j:Nat) (p:Oper),l[j]? =some p∧p.dst=some k∧ts[j]? =some t)∨(look G k=some t∧ ∀p:Oper,p∈l→p.dst≠some k))→o.dst≠some k→
     (∃(j:Nat) (p:Oper),(o::l)[j]? =some p∧p.dst=some k∧(u::ts)[j]? =some t)∨(look G k=some t∧ ∀p:Oper,p∈o::l→p.dst≠some k):=by
    rintro(⟨j,p,h1,h2,h3⟩|⟨h1,h2⟩) hne
    ·exact .inl ⟨j+1,p,by simpa using h1,h2,by simpa using h3⟩
    ·exact .inr ⟨h1,fun p hp=>(fS.1 hp).elim (fun e=>by subst e;exact hne) (h2 p)⟩
   cases hd:o.dst with
   |none=>
    rw [hd]at h
    exact lift (ih ts k t hl' h) (by rw [hd];exact fun e=>by cases e)
   |some d=>
    rw [hd]at h
    simp only at h
    unfold look at h
    by_cases hb:Nat.beq d k=true
    ·rw [hb]at h
     have:=rM hb
     subst this
     have e:u=t:=by simpa using h
     subst e
     exact .inl ⟨0,o,rfl,hd,rfl⟩
    ·rw [rO]at hb
     rw [hb]at h
     refine lift (ih ts k t hl' h) ?_
     rw [hd]
     intro e
     have:d=k:=kI e
     subst this
     simp at hb
abbrev TS:=List Nat×(List OI→Ty)
def TS.at(p:TS)(σ:Nat→OI):Ty:=p.2 (p.1.map σ)
def tc(t:Ty):TS:=([],fun _=>t)
def Et(Ss:List ((Nat→OI)→List OE))(c:Nat)(σ:Nat→OI):List OE:=match Ss[c]? with|some f=>f σ|none=>[]
structure NS where
 slot:Nat
 ty:(Nat→OI)→Ty
 src:Option Nat
def NS.at(n:NS)(σ:Nat→OI):Nd:=⟨n.slot,n.ty σ,n.src⟩
def Hw(G:gW)(ts:List TS)(n:NS):Prop:=
 match n.src with
 |some j=> ∀σ,(ts[j]?).map (fun p=>p.at σ)=some (n.ty σ)
 |none=> ∀σ,look G n.slot=some (n.ty σ)
def pW(G:gW)(ts:List TS):List NS→Prop
 |[]=>True
 |n::l=>Hw G ts n∧pW G ts l
theorem pW.mem{ts:List TS}: ∀{l:List NS},pW G ts l→ ∀n∈l,Hw G ts n
 |_::_,⟨h,_⟩,_,.head _=>h
 |_::_,⟨_,h⟩,_,.tail _ hm=>pW.mem h _ hm
def pT(l:List NS)(σ:Nat→OI):gW:=fv (l.map (·.at σ))
def F0(ts:List TS)(σ:Nat→OI):List Ty:=ts.map fun p=>p.at σ
def D7(L:List Oper)(es:List Bool)(i:Nat)(p:TS):Bool:=p.1.all fun k=>(es[k]?).getD false&&(Nat.beq k i||i8 L L.length i k)
def Il(L:List Oper)(es:List Bool)(i lo hi:Nat):Bool:=
 Nat.ble lo (dM es es.length)&&(List.range es.length).all fun k=> !((es[k]?).getD false)||((Nat.ble lo (dM es k)||i8 L L.length i k)&&(Nat.blt (dM es k) hi||i8 L L.length k i))
def DS(E:En)(G:gW)(L:List Oper)(ts:List TS)(Ss:List ((Nat→OI)→List OE))(es0:List Bool):Nat→Nat→List Oper→List Bool→Prop
 |_,_,[],_=>True
 |i,c,o::rest,false::es=>(∃(needs:List NS) (t:TS) (lo hi:Nat),ts[i]? =some t∧pW G ts needs∧(needs.all fun n=>kP L o i (n.at fun _=>lm))=true∧di i o=true∧D7 L es0 i t=true∧Il L es0 i lo hi=true∧o.dst.isSome=true∧
   ∀c σ,lo≤c→c≤hi→bH E (Et Ss c σ) L.toArray (pT needs σ) o (t.at σ))∧DS E G L ts Ss es0 (i+1) c rest es
 |i,c,o::rest,true::es=>(∃(needs:List NS) (t:TS),ts[i]? =some t∧pW G ts needs∧(needs.all fun n=>kP L o i (n.at fun _=>lm))=true∧di i o=true∧D7 L es0 i t=true∧
   ∀σ,iH E L.toArray (Et Ss c σ) (pT needs σ) o (fun x=>Et Ss (c+1) (zX σ i x)) (fun x=>t.at (zX σ i x)))∧DS E G L ts Ss es0 (i+1) (c+1) rest es
 |_,_,_::_,[]=>False
variable{L:List Oper}{Ss:List ((Nat→OI)→List OE)}{lo:Int}{σ:Type}
theorem DS.get{ts:List TS}{es0:List Bool}: ∀(r:List Oper) (es:List Bool) (k c:Nat),DS E G L ts Ss es0 k c r es→ ∀(j:Nat) (o:Oper),r[j]? =some o→
    ∃e,es[j]? =some e∧ ∃(needs:List NS) (t:TS),ts[k+j]? =some t∧pW G ts needs∧(needs.all fun n=>kP L o (k+j) (n.at fun _=>lm))=true∧di (k+j) o=true∧D7 L es0 (k+j) t=true∧
      (match e with
       |false=>o.dst.isSome=true∧ ∃lo hi,Il L es0 (k+j) lo hi=true∧ ∀c σ,lo≤c→c≤hi→bH E (Et Ss c σ) L.toArray (pT needs σ) o (t.at σ)
       |true=> ∀σ,iH E L.toArray (Et Ss (c+dM es j) σ) (pT needs σ) o (fun x=>Et Ss (c+dM es j+1) (zX σ (k+j) x)) (fun x=>t.at (zX σ (k+j) x))):=by
  intro r
  induction r with
  |nil=>intro es k c _ j o h;simp at h
  |cons p r ih=>
    intro es k c h j o ho
    cases es with
    |nil=>exact h.elim
    |cons e es=>
      cases e with
      |false=>
        obtain⟨⟨needs,t,lo,hi,g1,g2,g3,g4,g5,g6,g7,g8⟩,h2⟩:=h
        cases j with
        |zero=>
          simp at ho;subst ho
          exact⟨false,rfl,needs,t,g1,g2,g3,g4,g5,g7,lo,hi,g6,g8⟩
        |succ j=>
          obtain⟨e',g1,g2⟩:=ih es (k+1) _ h2 j o (by simpa using ho)
          refine⟨e',by simpa using g1,?_⟩
          rw [show k+1+j=k+(j+1)from by omega]at g2
          have e1:c+dM (false::es) (j+1)=c+dM es j:=by simp [dM]
          rw [e1];exact g2
      |true=>
        obtain⟨h1,h2⟩:=h
        cases j with
        |zero=>
          simp at ho;subst ho
          exact⟨true,rfl,h1⟩
        |succ j=>
          obtain⟨e',g1,g2⟩:=ih es (k+1) _ h2 j o (by simpa using ho)
          refine⟨e',by simpa using g1,?_⟩
          rw [show k+1+j=k+(j+1)from by omega]at g2
          have e1:c+dM (true::es) (j+1)=c+1+dM es j:=by simp [dM];omega
          rw [e1];exact g2
structure HR(E:En)(G:gW)(l:List Oper)(ts:List TS)(Ss:List ((Nat→OI)→List OE))(es:List Bool)(done:Array Bool)(a:Act)(w:World)(S:SH)(σ:Nat→OI)(c:Nat):Prop where
 ext:dV E.B E.w0 E.S0 w S
 sat:eR w S
 own:co E.base E.B w S (Et Ss c σ)
 size:a.tmps.size=E.N.n
 defers:a.defers=E.N.ds
 dsz:done.size=l.length
 down: ∀j o,l[j]? =some o→done.getD j false=true→ ∀e∈o.after,Region.binds .any e=true→done.getD e.on false=true
 old: ∀k t,look G k=some t→(∀j o,l[j]? =some o→done.getD j false=true→o.dst≠some k)→t.p S (a.tmps.getD k undef)
 new: ∀j o d p,l[j]? =some o→done.getD j false=true→o.dst=some d→ts[j]? =some p→(p.at σ).p S (a.tmps.getD d undef)
 deps: ∀j p,done.getD j false=true→ts[j]? =some p→ ∀k∈p.1,done.getD k false=true
 chain: ∀k,es[k]? =some true→(done.getD k false=true↔dM es k<c)
section
variable{ts:List TS}{es:List Bool}
theorem HR.need{done:Array Bool}{σ:Nat→OI}{c:Nat}(h:HR E G L ts Ss es done a w S σ c){i:Nat}(hi:L[i]? =some o)(hun:done.getD i true=false)(hwait: ∀e∈o.after,Region.binds .any e=true→done.getD e.on false=true){needs:List NS}(h1:pW G ts needs)(h2:(needs.all fun n=>kP L o i (n.at fun _=>lm))=true):cN E.N S a (pT needs σ):=by
 have hlt:i<done.size:=by rw [h.dsz];exact(mC.1 hi).1
 have hun' :done.getD i false=false:=by
  simp [hlt]at hun ⊢;exact hun
 refine⟨h.size,h.defers,?_⟩
 have key: ∀n∈needs,(n.ty σ).p S (a.tmps.getD n.slot undef):=by
  intro n hn
  have hs:=li.1 h2 n hn
  have ho:=h1.mem n hn
  unfold kP NS.at at hs
  unfold Hw at ho
  cases hsrc:n.src with
  |some j=>
   rw [hsrc]at hs ho
   simp only [jz]at hs
   obtain⟨hs1,hs2⟩:=hs
   cases hj:L[j]? with
   |none=>rw [hj]at hs1;cases hs1
   |some p=>
    rw [hj]at hs1
    cases hd:p.dst with
    |none=>simp only [hd]at hs1;cases hs1
    |some d=>
     simp only [hd]at hs1
     have hd' :=rM hs1
     subst hd'
     have hdone:done.getD j false=true:=by
      unfold uz at hs2
      obtain⟨e,he0,hb⟩:=vD.1 hs2
      have he:e∈o.after:=by simpa using he0
      simp only [jz]at hb
      have:=hwait e he hb.2
      rwa [rM hb.1]at this
     have hm:=ho σ
     cases hf:ts[j]? with
     |none=>rw [hf]at hm;simp at hm
     |some f=>
      rw [hf]at hm
      have e:f.at σ=n.ty σ:=by simpa using hm
      rw [←e]
      exact h.new j p n.slot f hj hdone hd hf
  |none=>
   rw [hsrc]at hs ho
   refine h.old _ _ (ho σ) fun j p hj hdone hd=>?_
   have:=li.1 hs p (pX hj)
   simp only [hd,Nat.beq_refl,vy,vz]at this
   unfold uz at this
   obtain⟨e,he0,hb⟩:=vD.1 this
   have he:e∈p.after:=by simpa using he0
   simp only [jz]at hb
   have h3:=h.down j p hj hdone e he hb.2
   rw [rM hb.1]at h3
   rw [h3]at hun'
   cases hun'
 clear h1 h2
 intro k t hk
 unfold pT at hk
 induction needs with
 |nil=>simp [fv,look]at hk
 |cons n needs ih=>
  simp only [xg]at hk
  unfold fv look at hk
  by_cases hb:Nat.beq n.slot k=true
  ·have hb' :Nat.beq (n.at σ).slot k=true:=hb
   rw [hb']at hk
   have:=rM hb
   subst this
   have h9:some (n.at σ).ty=some t:=by simpa using hk
   have e:n.ty σ=t:=kI h9
   rw [←e]
   exact key n (oQ ..)
  ·rw [rO]at hb
   have hb' :Nat.beq (n.at σ).slot k=false:=hb
   rw [hb']at hk
   exact ih (fun m hm=>key m (oy _ hm)) hk
theorem HR.step{done:Array Bool}{σ σ' :Nat→OI}{c c' :Nat}(h:HR E G L ts Ss es done a w S σ c){i:Nat}{p0:TS}{C:Nat→Prop}(hi:L[i]? =some o)(hdN: ∀d,o.dst=some d→d<E.N.n)(hs2: ∀d,o.dst=some d→ ∀j p,L[j]? =some p→done.getD j false=true→p.dst=some d→i=j)(hwait: ∀e∈o.after,Region.binds .any e=true→done.getD e.on false=true)(ht:ts[i]? =some p0)(hun:done.getD i true=false)(hdep: ∀k∈p0.1,k=i∨done.getD k false=true)(hext:dV C w S w' S')(hC: ∀b,C b→E.base≤b∨E.B b)(hsat:eR w' S')(hown:co E.base E.B w' S' (Et Ss c' σ'))(hσ: ∀k,k≠i→σ' k=σ k)(hv:(p0.at σ').p S' v)(hch: ∀k,es[k]? =some true→((done.setIfInBounds i true).getD k false=true↔dM es k<c')):
  HR E G L ts Ss es (done.setIfInBounds i true) (a.put o.dst v) w' S' σ' c' :=by
 have hlt:i<done.size:=by rw [h.dsz];exact(mC.1 hi).1
 have hset: ∀j,(done.setIfInBounds i true).getD j false=true→j=i∨done.getD j false=true:=fun j hj=>by
  by_cases hij:i=j
  ·exact .inl hij.symm
  ·rw [tB false hij]at hj;exact .inr hj
 have hseti:(done.setIfInBounds i true).getD i false=true:=by simp [hlt]
 have hun' :done.getD i false=false:=by simp [hlt]at hun ⊢;exact hun
 have hput: ∀k,(∀d,o.dst=some d→d≠k)→(a.put o.dst v).tmps.getD k undef=a.tmps.getD k undef:=fun k hk=>by
  cases hd:o.dst with
  |none=>rfl
  |some d=>
   have hda:d<a.tmps.size:=by rw [h.size];exact hdN d hd
   rw [lP hda,cQ (hk d hd)]
 refine⟨h.ext.step hext hC,hsat,hown,?_,?_,by simp [h.dsz],fun j p hj hdone e he hb=>?_,fun k u hk hno=>?_,fun j p d' u hj hdone hd' hu=>?_,fun j u hj hu k hk=>?_,hch⟩
 ·cases o.dst with
  |none=>exact h.size
  |some d=>simp [Act.put,h.size]
 ·cases o.dst with
  |none=>exact h.defers
  |some d=>exact h.defers
 ·rcases hset j hdone with rfl|hj'
  ·rw [hi]at hj
   have:o=p:=by simpa using hj
   subst this
   exact oU (hwait e he hb)
  ·exact oU (h.down j p hj hj' e he hb)
 ·rw [hput k fun d hd e=>hno i o hi hseti (by rw [hd,e])]
  exact u.mono hext.keep (h.old k u hk fun j p hj hdone=>hno j p hj (oU hdone))
 ·by_cases hij:j=i
  ·subst hij
   rw [hi]at hj
   have:o=p:=by simpa using hj
   subst this
   have hda:d' <a.tmps.size:=by rw [h.size];exact hdN d' hd'
   rw [hd',lP hda,cO rfl]
   rw [ht]at hu
   have:p0=u:=by simpa using hu
   subst this
   exact hv
  ·have hj' :=(hset j hdone).resolve_left hij
   rw [hput d' fun d hd e=>by subst e;exact hij (hs2 d hd j p hj hj' hd').symm]
   have e1:u.at σ' =u.at σ:=congrArg u.2 (List.map_congr_left fun k hk=>hσ k fun e=>by
     subst e
     rw [h.deps j u hj' hu k hk]at hun';cases hun')
   rw [e1]
   exact Ty.mono _ hext.keep (h.new j p d' u hj hj' hd' hu)
 ·rcases hset j hj with rfl|hj'
  ·rw [ht]at hu
   have:p0=u:=by simpa using hu
   subst this
   rcases hdep k hk with rfl|h'
   ·exact hseti
   ·exact oU h'
  ·exact oU (h.deps j u hj' hu k hk)
end
theorem zW{l t:List Oper}{ts:List TS}{es:List Bool}(hsl:qf E.N.n [] l=true)(hlen:ts.length=l.length)(hesl:es.length=l.length)(hd:DS E G (l++t) ts Ss es 0 0 l es)(hch:Ce (l++t) es=true)(ht:rx (l++t) l.length t.length=true)(hQ: ∀a w S σ,St E (Et Ss (dM es es.length) σ) (Ap l (F0 ts σ) G) a w S→wpListIn (fw E.r) 0 E.P (l++t).toArray Q t a w):
  ∀(fuel:Nat) (done:Array Bool) (a:Act) (w:World) (S:SH) (σ:Nat→OI) (c:Nat),gB done=fuel→(∀j,l.length≤j→done.getD j false=false)→c≤dM es es.length→HR E G (l++t) ts Ss es done a w S σ c→wpAnyIn (fw E.r) 0 E.P .any (l++t).toArray Q fuel done a w:=by
 have hL1: ∀i o,i<l.length→(l++t)[i]? =some o→l[i]? =some o:=fun i o hi h=>by rwa [wV hi]at h
 have hL2: ∀i o,l[i]? =some o→(l++t)[i]? =some o:=fun i o h=>by rw [wV (mC.1 h).1];exact h
 have htail: ∀m o,l.length≤m→(l++t)[m]? =some o→pK (l++t) m=true∧di m o=true:=fun m o hm ho=>by
  have hml:m<(l++t).length:=(mC.1 ho).1
  rw [kJ]at hml
  unfold rx at ht
  have:=li.1 ht (m-l.length) (by simp;omega)
  rw [show l.length+(m-l.length)=m from by omega,ho]at this
  simp only [jz]at this
  exact⟨this.1,this.2.1⟩
 have hget:=fun i o (hi:l[i]? =some o)=>DS.get l es 0 0 hd i o hi
 have hedge: ∀i o,(l++t)[i]? =some o→di i o=true:=fun i o hi=>by
  rcases jd i l.length with h|h
  ·obtain⟨_,_,_,_,_,_,_,h,_⟩:=hget i o (hL1 i o h hi)
   simpa using h
  ·exact(htail i o h hi).2
 obtain⟨hs1,hs2⟩:=uE l [] hsl
 have fin: ∀fuel done a w S σ c,gB done=fuel→(∀j,l.length≤j→done.getD j false=false)→c≤dM es es.length→HR E G (l++t) ts Ss es done a w S σ c→(∀i,i<l.length→done.getD i false=true)→wpAnyIn (fw E.r) 0 E.P .any (l++t).toArray Q fuel done a w:=by
  intro fuel done a w S σ c hu hfree hcle h hall
  have hcc:c=dM es es.length:=by
   rcases jd c (dM es es.length)with hlt|hge
   ·obtain⟨i,h1,h2,h3⟩:=pL hlt
    have:=(h.chain i h2).1 (hall i (by omega))
    omega
   ·omega
  subst hcc
  refine rU (n:=l.length) (fun m o hm ho=>(htail m o hm ho).1) hedge t l.length done fuel a w (fG _) (by simp) h.dsz (fun j hj=>⟨fun hjd=>?_,fun hlt=>hall j hlt⟩) hu
   (hQ a w S σ ⟨h.ext,h.sat,h.own,h.size,h.defers,fun j u hj=>?_⟩)
  ·rcases jd j l.length with h' |h'
   ·exact h'
   ·rw [hfree j h']at hjd;cases hjd
  ·rcases xM l (F0 ts σ) j u (by unfold F0;rw [List.length_map];exact hlen) hj with⟨i,o,h1,h2,h3⟩|⟨h1,h2⟩
   ·unfold F0 at h3
    rw [Df]at h3
    cases hf:ts[i]? with
    |none=>rw [hf]at h3;simp at h3
    |some f=>
     rw [hf]at h3
     have e:f.at σ=u:=by simpa using h3
     rw [←e]
     exact h.new i o j f (hL2 i o h1) (hall i (mC.1 h1).1) h2 hf
   ·refine h.old j u h1 fun i o ho hdn=>?_
    rcases jd i l.length with h' |h'
    ·exact h2 o (pX (hL1 i o h' ho))
    ·rw [hfree i h']at hdn;cases hdn
 have lower: ∀done a w S σ c i,(∀j,l.length≤j→done.getD j false=false)→HR E G (l++t) ts Ss es done a w S σ c→i∈Region.ready .any (l++t).toArray done→l.length≤i→ ∀j,j<l.length→done.getD j false=true:=by
  intro done a w S σ c i hfree h hi hge j hj
  obtain⟨hun,p,hp,hwait⟩:=rN.1 hi
  have hp' :(l++t)[i]? =some p:=by simpa using hp
  have hcov:=(htail i p hge hp').1
  unfold pK at hcov
  have hre:=li.1 hcov j (by simp;omega)
  exact dP h.down _ i j (fun q hq e he hb=>by
   have:q=p:=by rw [hp']at hq;simpa using hq.symm
   subst this
   exact hwait e he hb) hre
 have hchain: ∀i j,j<i→es[i]? =some true→es[j]? =some true→i8 (l++t) (l++t).length i j=true:=fun i j hij h1 h2=>by
  unfold Ce at hch
  have hil:i<es.length:=(mC.1 h1).1
  have:=li.1 (li.1 hch i (by simpa using hil)) j (by simpa using hij)
  rw [h1,h2]at this
  simpa using this
 intro fuel
 induction fuel with
 |zero=>
  intro done a w S σ c hu hfree hcle h
  exact fin 0 done a w S σ c hu hfree hcle h fun i hi=>nE hu (by rw [h.dsz,kJ];omega)
 |succ fuel ih=>
  intro done a w S σ c hu hfree hcle h
  by_cases hall: ∀i,i<l.length→done.getD i false=true
  ·exact fin _ done a w S σ c hu hfree hcle h hall
  have hready0: ∀m i,i<m→i<l.length→Region.ready .any (l++t).toArray done=[]→done.getD i false=true:=by
   intro m
   induction m with
   |zero=>intro i h;omega
   |succ m ihm=>
    intro i him hil hr
    have his:i<done.size:=by rw [h.dsz,kJ];omega
    by_cases hdn:done.getD i true=true
    ·rw [←jK his];exact hdn
    ·exfalso
     obtain⟨o,ho⟩: ∃o,(l++t)[i]? =some o:=⟨l[i],hL2 i _ (oV hil)⟩
     have hmem:i∈Region.ready .any (l++t).toArray done:=by
      rw [rN]
      refine⟨by simpa using hdn,o,by simpa using ho,fun e he hb=>?_⟩
      have:=hedge i o ho
      unfold di at this
      have:=li.1 this e (by simpa using he)
      simp only [hb,vy,vz,oA]at this
      exact ihm e.on (by omega) (by omega) hr
     rw [hr]at hmem;cases hmem
  refine⟨fun hr=>absurd (fun i hi=>hready0 (i+1) i (by omega) hi hr) hall,fun i hi=>?_⟩
  have hil:i<l.length:=by
   rcases jd i l.length with h' |h'
   ·exact h'
   ·exact absurd (lower done a w S σ c i hfree h hi h') hall
  obtain⟨hun,o,ho,hwait⟩:=rN.1 hi
  have ho' :(l++t)[i]? =some o:=by simpa using ho
  have hol:=hL1 i o hil ho'
  obtain⟨e,he,needs,u,h1,h2,h3,_,h4,h5⟩:=hget i o hol
  rw [rl]at h1 h3 h4
  have hF:=h.need ho' hun hwait h2 h3
  have his:i<done.size:=by rw [h.dsz,kJ];omega
  have hun' :done.getD i false=false:=by rw [←jK his];exact hun
  have hu' :gB (done.setIfInBounds i true)=fuel:=by have:=lq hun;omega
  have huq: ∀d,o.dst=some d→ ∀j p,(l++t)[j]? =some p→done.getD j false=true→p.dst=some d→i=j:=fun d hdd j p hj hjd hpd=>by
   rcases jd j l.length with h' |h'
   ·exact hs2 i j o p d hol (hL1 j p h' hj) hdd hpd
   ·rw [hfree j h']at hjd;cases hjd
  have hfree' : ∀j,l.length≤j→(done.setIfInBounds i true).getD j false=false:=fun j hj=>by
   rw [tB false (by omega)];exact hfree j hj
  have hbl:E.base≤w.heap.size:=h.ext.size
  have hwaits: ∀q,(l++t)[i]? =some q→ ∀e∈q.after,Region.binds .any e=true→done.getD e.on false=true:=fun q hq e he hb=>by
   have:q=o:=by rw [ho']at hq;simpa using hq.symm
   subst this
   exact hwait e he hb
  have hdpp: ∀k∈u.1,k=i∨done.getD k false=true:=fun k hk=>by
   have:=li.1 h4 k hk
   simp only [jz,vB]at this
   rcases this.2 with hb|hb
   ·exact .inl (rM hb)
   ·exact .inr (dP h.down _ i k hwaits hb)
  have hdNN: ∀d,o.dst=some d→d<E.N.n:=fun d hd=>(hs1 o (pX hol) d hd).1
  unfold wpOpIn
  rw [ho]
  show if _ then _ else _
  cases e with
  |false=>
   simp only at h5
   obtain⟨hdS,lo,hi',hwin,h5⟩:=h5
   rw [rl]at hwin
   obtain⟨d,hdd⟩:=Option.isSome_iff_exists.1 hdS
   have hdN:=(hs1 o (pX hol) d hdd).1
   unfold Il at hwin
   rw [jz]at hwin
   obtain⟨hw1,hw2⟩:=hwin
   have hw1' :=kD hw1
   have hwk: ∀k,es[k]? =some true→(Nat.ble lo (dM es k)=true∨i8 (l++t) (l++t).length i k=true)∧(Nat.blt (dM es k) hi' =true∨i8 (l++t) (l++t).length k i=true):=fun k hk=>by
    have hkl:k<es.length:=(mC.1 hk).1
    have:=li.1 hw2 k (by simpa using hkl)
    rw [hk]at this
    simpa using this
   have hlo:lo≤c:=by
    rcases jd c lo with hlt|hge
    ·exfalso
     obtain⟨k,hk1,hk2,hk3⟩:=pL (es:=es) (c:=c) (k:=es.length) (by omega)
     rcases(hwk k hk2).1 with hb|hb
     ·have:=kD hb;omega
     ·have:=(h.chain k hk2).1 (dP h.down _ i k hwaits hb)
      omega
    ·exact hge
   have hhi:c≤hi' :=by
    rcases jd hi' c with hlt|hge
    ·exfalso
     obtain⟨k,hk1,hk2,hk3⟩:=pL (es:=es) (c:=hi') (k:=es.length) (by omega)
     rcases(hwk k hk2).2 with hb|hb
     ·simp only [oA]at hb;omega
     ·have hkd:done.getD k false=true:=(h.chain k hk2).2 (by omega)
      have:=dP h.down _ k i (fun q hq e he hb=>h.down k q hq hkd e he hb) hb
      rw [this]at hun';cases hun'
    ·exact hge
   have h6:=h5 c σ hlo hhi a w S h.sat h.own hF
   have hch' : ∀k,es[k]? =some true→((done.setIfInBounds i true).getD k false=true↔dM es k<c):=fun k hk=>by
    have hne:i≠k:=fun e=>by subst e;rw [he]at hk;cases hk
    rw [tB false hne];exact h.chain k hk
   by_cases hw:Region.wanted o (yielded (l++t).toArray a.tmps)=true
   ·rw [cO hw]at h6 ⊢
    refine gi (fun a' w' ⟨v,S',ha,hx,hs,hv⟩=>?_) h6
    subst ha
    exact ih _ _ _ S' _ c hu' hfree' hcle (h.step ho' hdNN huq hwait h1 hun hdpp hx (fun _ hb=>hb.elim) hs (h.own.ext0 hx) (fun _ _=>rfl) hv hch')
   ·rw [cQ hw]at h6 ⊢
    exact⟨fun _ _=>trivial,ih _ _ _ S _ c hu' hfree' hcle (h.step ho' hdNN huq hwait h1 hun hdpp (dI kH _ _) (fun _ hb=>hb.elim) h.sat h.own (fun _ _=>rfl) h6 hch')⟩
  |true=>
   simp only [rl]at h5
   -- it is the next one of the chain
   have hca:dM es i=c:=by
    have hn: ¬dM es i<c:=fun hlt=>by rw [(h.chain i he).2 hlt]at hun';cases hun'
    rcases jd c (dM es i)with hlt|hge
    ·exfalso
     obtain⟨k,hk1,hk2,hk3⟩:=pL hlt
     have hkd:done.getD k false=true:=dP h.down _ i k hwaits (hchain i k hk1 he hk2)
     have:=(h.chain k hk2).1 hkd
     omega
    ·omega
   subst hca
   have h6:=h5 σ a w S h.sat h.own hF hbl
   have hch' : ∀k,es[k]? =some true→((done.setIfInBounds i true).getD k false=true↔dM es k<dM es i+1):=fun k hk=>by
    by_cases hik:i=k
    ·subst hik
     constructor
     ·intro _;omega
     ·intro _;simp [his]
    ·rw [tB false hik,h.chain k hk]
     constructor
     ·intro h;omega
     ·intro hlt
      rcases jd i k with hlk|hlk
      ·have:=wE hlk he;omega
      ·exact wE (by omega) hk
   have hcle' :dM es i+1≤dM es es.length:=wE (by omega) he
   by_cases hw:Region.wanted o (yielded (l++t).toArray a.tmps)=true
   ·rw [cO hw]at h6 ⊢
    refine gi (fun a' w' ⟨v,S',x,ha,hx,hs,hown,hv⟩=>?_) h6
    subst ha
    exact ih _ _ _ S' _ _ hu' hfree' hcle' (h.step ho' hdNN huq hwait h1 hun hdpp hx (fun b ⟨f,hf,hb⟩=>(co.mem h.own f hf).2 b hb) hs hown (fun k hk=>vH σ x hk) hv hch')
   ·rw [cQ hw]at h6 ⊢
    obtain⟨x,hown,hv⟩:=h6
    exact⟨fun _ _=>trivial,ih _ _ _ S _ _ hu' hfree' hcle' (h.step ho' hdNN huq hwait h1 hun hdpp (dI kH _ _) (fun _ hb=>hb.elim) h.sat hown (fun k hk=>vH σ x hk) hv hch')⟩
theorem gA{id:Nat}(m:Nat)(ts:List TS)(es:List Bool)(Ss:List ((Nat→OI)→List OE))(hO:Ss[0]? =some fun _=>O)(hm:E.P.follows .mixedOrders=true)(hsl:qf E.N.n [] (L.take m)=true)(hlen:ts.length=(L.take m).length)(hesl:es.length=(L.take m).length)(hch:Ce L es=true)(ht:rx L (L.take m).length (L.drop m).length=true)(hd:DS E G L ts Ss es 0 0 (L.take m) es)(k: ∀σ:Nat→OI,RG E L.toArray Q (L.drop m) (Et Ss (dM es es.length) σ) (Ap (L.take m) (F0 ts σ) G)):CG E Q (.region id L.toArray true) O G:=fun a w S st=>by
 have hL:L=L.take m++L.drop m:=(pY m L).symm
 generalize L.take m=l at hL hsl hlen hesl ht hd k
 generalize L.drop m=t at hL ht k
 subst hL
 refine wpIn_region_any hm ?_
 obtain⟨he,hs⟩:=qX (w:=w) st.sat
 have hO0:Et Ss 0 (fun _=>lm)=O:=by unfold Et;rw [hO]
 refine zW hsl hlen hesl hd hch ht (fun a w S σ st=>k σ a w S st) _ _ _ _ S (fun _=>lm) 0 ?_ (fun j _=>?_) (iQ _)
  ⟨st.ext.step0 he,hs,by rw [hO0];exact st.own.ext0 he,st.facts.size,st.facts.defers,by simp,fun j o hj hdone=>?_,fun k t hk _=>st.facts.at_ k t hk,fun j o d t hj hdone=>?_,fun j p hdone=>?_,fun k _=>⟨fun hdone=>?_,fun h=>(by omega)⟩⟩
 ·unfold gB;rw [Cs,Cp];simp
 ·simp [rQ];split<;>rfl
 ·simp [rQ]at hdone
  split at hdone<;>simp at hdone
 ·simp [rQ]at hdone
  split at hdone<;>simp at hdone
 ·simp [rQ]at hdone
  split at hdone<;>simp at hdone
 ·simp [rQ]at hdone
  split at hdone<;>simp at hdone
theorem sC{p:Nat→(Nat→OI)→Prop}{lo:Nat}(h: ∀σ,p lo σ): ∀c σ,lo≤c→c≤lo→p c σ:=fun c σ h1 h2=>by
 have:c=lo:=by omega
 subst this;exact h σ
theorem yC{p:Nat→(Nat→OI)→Prop}{lo hi:Nat}(h: ∀σ,p lo σ)(k: ∀c σ,lo+1≤c→c≤hi→p c σ): ∀c σ,lo≤c→c≤hi→p c σ:=fun c σ h1 h2=>by
 by_cases e:c=lo
 ·subst e;exact h σ
 ·exact k c σ (by omega) h2
variable{post:OI→List OE}
theorem wz{op:Op}{ty:TypeId}(hnd: ∀c,op≠ .defer c)(h: ∀a w S,eR w S→co E.base E.B w S O→cN E.N S a G→E.base≤w.heap.size→ ∃w' S' x,(execOp a.eval ⟨none,op,ty,pos,after,g⟩).run E.P w= .ok .skip w' ∧dV (sh O) w S w' S' ∧eR w' S' ∧co E.base E.B w' S' (post x)):
  EffOK E O G ⟨none,op,ty,pos,after,g⟩ post (fun _=>tL):=fun a w S hs ho hf hb=>by
 obtain⟨w',S',x,h1,h2,h3,h4⟩:=h a w S hs ho hf hb
 refine⟨hnd,?_⟩
 rw [h1]
 exact⟨undef,S',x,rfl,h2,h3,h4,trivial⟩

abbrev HL:=List (Nat×Value)
def sW:HL→Nat→Option Value
 |[],_=>none
 |p::hs,o=>bif Nat.beq p.1 o then some p.2 else sW hs o
theorem rh: ∀{hs:HL} {o:Nat} {v:Value},sW hs o=some v→(o,v)∈hs
 |[],_,_,h=>by cases h
 |p::hs,o,v,h=>by
  unfold sW at h
  by_cases hb:Nat.beq p.1 o=true
  ·rw [hb]at h
   have e1:=rM hb
   have e2:p.2=v:=kI h
   subst e1 e2
   exact oQ ..
  ·rw [rO]at hb
   rw [hb]at h
   exact oy _ (rh h)
def rH{α:Type}(r:Rp α)(hs:HL):Rp α where
 sz:=r.sz
 agg:=r.agg
 rc:=fun S cs x=>r.rc S cs x∧ ∀p∈hs,cs[p.1]? =some p.2
 mono:=fun h k=>⟨r.mono h k.1,k.2⟩
 len:=fun k=>r.len k.1
 one:=fun k=>r.one k.1
 sc:=r.sc
theorem DY{hs:HL}{get:α→β}(h:ib r off q get):ib (rH r hs) off q get:=fun S cs x k=>h S cs x k.1
theorem D8(h:cs[off]? =some v):(cs.drop off).take 1=[v]:=by
 have hlt:=(mC.1 h).1
 rw [yx hlt,(mC.1 h).2]
 rfl
theorem Mm{hs:HL}(h:sW hs off=some v):ib (rH r hs) off rV (fun _=>v):=fun S cs x k=>by
 have h1:=k.2 _ (rh h)
 exact⟨D8 h1,r.one k.1 v (pX h1)⟩
def HZ(z:List Value):HL→Prop
 |[]=>True
 |p::hs=>z[p.1]? =some p.2∧HZ z hs
theorem HZ.all: ∀{hs:HL},HZ z hs→ ∀p∈hs,z[p.1]? =some p.2
 |_::_,⟨h,_⟩,_,.head _=>h
 |_::_,⟨_,h⟩,_,.tail _ hm=>HZ.all h _ hm
theorem zH{x:α}{hs:HL}(h: ∀S,r.rc S z x)(k:HZ z hs): ∀S,(rH r hs).rc S z x:=fun S=>⟨h S,k.all⟩
def IC(hs:HL)(off sz:Nat):Bool:=hs.all fun p=>Nat.blt p.1 off||Nat.ble (off+sz) p.1
def LQ(hs:HL)(off sz:Nat)(v:Option Value):HL→Prop
 |[]=>True
 |p::l=>((v=some p.2∧p.1=off∧sz=1)∨(sW hs p.1=some p.2∧(Nat.blt p.1 off||Nat.ble (off+sz) p.1)=true))∧LQ hs off sz v l
theorem LQ.all{hs:HL}{v:Option Value}: ∀{l:HL},LQ hs off sz v l→ ∀p∈l,(v=some p.2∧p.1=off∧sz=1)∨(sW hs p.1=some p.2∧(Nat.blt p.1 off||Nat.ble (off+sz) p.1)=true)
 |_::_,⟨h,_⟩,_,.head _=>h
 |_::_,⟨_,h⟩,_,.tail _ hm=>LQ.all h _ hm
theorem uW{ds:List Value}(hl:ds.length=sz)(hoff:off+sz≤cs.length)(h:(Nat.blt k off||Nat.ble (off+sz) k)=true):(cs.take off++ds++cs.drop (off+sz))[k]? =cs[k]? :=by
 simp only [vB,oA,Nat.ble_eq]at h
 have ht:(cs.take off).length=off:=by simp;omega
 rcases h with h|h
 ·rw [wV (by simp;omega),wV (by omega),wU h]
 ·rw [List.getElem?_append_right (by simp;omega),u4]
  congr 1
  simp only [kJ,ht,hl];omega
theorem FI{ds:List Value}(hd:ds=[v])(hoff:off+1≤cs.length):(cs.take off++ds++cs.drop (off+1))[off]? =some v:=by
 subst hd
 have ht:(cs.take off).length=off:=by simp;omega
 rw [wV (by simp;omega),List.getElem?_append_right (by omega),ht,Nat.sub_self]
 rfl
theorem EM{hs:HL}(h:dU r off q set)(hk:IC hs off q.sz=true)(hoff:Nat.ble (off+q.sz) r.sz=true):dU (rH r hs) off q set:=fun S cs x ds y h1 h2=>by
 refine⟨h S cs x ds y h1.1 h2,fun p hp=>?_⟩
 have hl:=r.len h1.1
 rw [uW (q.len h2) (by have:=kD hoff;omega) (li.1 hk p hp)]
 exact h1.2 _ hp
section
section
variable{ty:TypeId}
theorem n6{op:Op}{t:OI→Ty}(h:EffOK E O G ⟨none,op,ty,pos,after,none⟩ post t)(k: ∀x,RG E ops Q rest (post x) G):RG E ops Q (⟨none,op,ty,pos,after,none⟩::rest) O G:= .of rfl fun a w S st=>
 jH (fun a' w' ⟨v,S',x,ha,hx,hs,ho,hv⟩=>by
  subst ha
  exact k x _ _ S' ⟨st.ext.step hx fun b ⟨f,hf,hb⟩=>(co.mem st.own f hf).2 b hb,hs,ho,st.facts.mono hx.keep⟩) (h a w S st.sat st.own st.facts st.base_le)
theorem iC{γ:Type}{r' :Rp γ}{x:α}{x' :γ}{p v:Operand}(ti:TI E.P U sz bytes agg z)(hsz:q.sz=sz)(hset:nl r r' off q x y x')(hoff:Nat.ble (off+q.sz) r.sz=true)(hp:aL E.N G p (tV (aE b off)))(hv:aL E.N G v (tD q y)):EffOK E (bx r T b x::O) G ⟨none,.store U p v,ty,pos,after,g⟩ (fun _=>bx r' T b x' ::O) (fun _=>tL):=wz (fun _ h=>(by cases h)) fun a w S hs ho hf hb=>by
 have h1:a.eval p=aE b off:=hp S a hf
 obtain⟨ds,h2,h3⟩:=hv S a hf
 obtain⟨⟨hno,cur,h5,h6⟩,_⟩:=ho.1
 have hl:=r.len h6
 have hoff' :=kD hoff
 obtain⟨w',hr,e1,e2,e3,e4,e5,e6⟩:=f8 ti hsz h3 h5 (off:=off) (by simp at hl;omega)
 have hrun:(execOp a.eval ⟨none,.store U p v,ty,pos,after,g⟩).run E.P w= .ok .skip w' :=by
  simp [execOp,h1,h2,Instr.storeAt,aE,Instr.sureAddr,hr]
 obtain⟨g1,g2,g3⟩:=lz (O:=O) hs (bx r T b x) (bx r' T b x') ho (fun _=>Iff.rfl) (fun _=>Iff.rfl) ⟨e1,e2,e3,e4.1,e4.2⟩ e6 ⟨hno,_,e5,by simpa using hset S _ _ h6 h3⟩ hno
 exact⟨w',S,lm,hrun,g1.more fun k hk=>⟨_,oQ ..,hk⟩,g2,g3⟩
theorem ni{hs hs' :HL}{x:α}{p v:Operand}(ti:TI E.P U 1 bytes false z)(hsz:q.sz=1)(hag:q.agg=false)(hset:dU r off q set)(hoff:Nat.ble (off+1) r.sz=true)(hk:LQ hs off 1 (some u) hs')(hp:aL E.N G p (tV (aE b off)))(hv:aL E.N G v (tD q y))(hu:aL E.N G v (tV u)):EffOK E (bx (rH r hs) T b x::O) G ⟨none,.store U p v,ty,pos,after,g⟩ (fun _=>bx (rH r hs') T b (set x y)::O) (fun _=>tL):=wz (fun _ h=>(by cases h)) fun a w S hsat ho hf hb=>by
 have h1:a.eval p=aE b off:=hp S a hf
 obtain⟨ds,h2,h3⟩:=hv S a hf
 have hu' :a.eval v=u:=hu S a hf
 obtain⟨⟨hno,cur,h5,h6⟩,_⟩:=ho.1
 have hl:=r.len h6.1
 have hoff' :=kD hoff
 have hdl:=q.len h3
 have hds:ds=[u]:=by
  obtain⟨d,hd⟩:=List.length_eq_one_iff.1 (by rw [hdl,hsz]:ds.length=1)
  subst hd
  have e1:q.val [d]=d:=by simp [Rp.val,hag]
  rw [h2,e1]at hu'
  rw [hu']
 obtain⟨w',hr,e1,e2,e3,e4,e5,e6⟩:=f8 ti hsz h3 h5 (off:=off) (by simp at hl;omega)
 have hrun:(execOp a.eval ⟨none,.store U p v,ty,pos,after,g⟩).run E.P w= .ok .skip w' :=by
  simp [execOp,h1,h2,Instr.storeAt,aE,Instr.sureAddr,hr]
 rw [hsz]at e5
 have hnew:(rH r hs').rc S (cur.toList.take off++ds++cur.toList.drop (off+1)) (set x y):=by
  have h7:=hset S _ _ _ _ h6.1 h3
  rw [hsz]at h7
  refine⟨h7,fun p hp=>?_⟩
  rcases hk.all p hp with⟨f1,f2,_⟩|⟨f1,f2⟩
  ·rw [f2]
   exact FI (by rw [hds,kI f1]) (by omega)
  ·rw [uW (by rw [hdl,hsz]) (by omega) f2]
   exact h6.2 _ (rh f1)
 obtain⟨g1,g2,g3⟩:=lz (O:=O) hsat (bx (rH r hs) T b x) (bx (rH r hs') T b (set x y)) ho (fun _=>Iff.rfl) (fun _=>Iff.rfl) ⟨e1,e2,e3,e4.1,e4.2⟩ e6 ⟨hno,_,e5,by simpa using hnew⟩ hno
 exact⟨w',S,lm,hrun,g1.more fun k hk=>⟨_,oQ ..,hk⟩,g2,g3⟩
end
section
variable{ty:TypeId}
theorem EZ{hs:HL}{x:α}{p:Operand}(ti:TI E.P U 1 bytes false z)(hk:sW hs off=some u)(hm:bx (rH r hs) T b x∈O)(hp:aL E.N G p (tV (aE b off))):
  bN E O G ⟨dst,.load U p,ty,pos,after,g⟩ (tV u):=(aW (q:=rV) ti rfl rfl (Mm hk) hm hp).imp fun _ _ h=>(oZ.1 h).1
theorem c8{q:Rp α}{r:Rp β}{hs:HL}{x:β}{V:TypeId}{p:Operand}{l:Option Nat}(ti:TI E.P U 1 bytes false z)(hk:sW hs off=some (aC l cap xs.length))(hm:bx (rH r hs) T b x∈O)(hm2:bV q V l cap xs∈O)(hp:aL E.N G p (tV (aE b off))):
  bN E O G ⟨dst,.load U p,ty,pos,after,g⟩ (tO q l cap xs):=fun a w S hs' ho hf=>
 jH (fun _ _ ⟨v,S',h1,h2,h3,h4⟩=>⟨v,S',h1,h2,h3,h4,by
  have h5:v=aC l cap xs.length:=h4
  rw [h5]
  exact kN (((ho.ext0 h2).mem _ hm2).1)⟩) (EZ (g:=g) (ty:=ty) (pos:=pos) (after:=after) (dst:=dst) ti hk hm hp a w S hs' ho hf)
theorem Gp{t:Ty}(h1: ∀S v,t.p S v→v.oneCell' =true)(hx:aL E.N G x t):bN E O G ⟨dst,.box T x,ty,pos,after,g⟩ (bl (rT t) ()):=
 BN (fun S a hf=>LZ.2 ⟨h1 _ _ (hx S a hf),hx S a hf⟩)
end
def Gd:HL→HL→Prop
 |[],_=>True
 |p::l,hs=>sW hs p.1=some p.2∧Gd l hs
theorem Gd.all{hs:HL}: ∀{l:HL},Gd l hs→ ∀p∈l,p∈hs
 |_::_,⟨h,_⟩,_,.head _=>rh h
 |_::_,⟨_,h⟩,_,.tail _ hm=>Gd.all h _ hm
end

variable{O' :List OE}
theorem EffOK.perm{t:OI→Ty}(h:EffOK E O' G o post t)(k: ∀{w S},co E.base E.B w S O→co E.base E.B w S O')(m: ∀f∈O',f∈O):EffOK E O G o post t:=fun a w S hs ho hf hb=>
 jH (fun _ _ ⟨v,S',x,h1,h2,h3,h4,h5⟩=>⟨v,S',x,h1,h2.more fun _ ⟨f,hf,hk⟩=>⟨f,m f hf,hk⟩,h3,h4,h5⟩) (h a w S hs (k ho) hf hb)
variable{x0 x4 x5:OE}
namespace EffOK
section
variable{t:OI→Ty}
theorem fr1(h:EffOK E (x1::x0::O) G o post t):EffOK E (x0::x1::O) G o post t:=h.perm (fun hw=>co.swap hw) (fun f hf=>by simp only [fS]at hf ⊢;rcases hf with h|h|h<;>simp [h])
theorem fr2(h:EffOK E (x2::x0::x1::O) G o post t):EffOK E (x0::x1::x2::O) G o post t:=h.perm (fun hw=>nt hw) (fun f hf=>by simp only [fS]at hf ⊢;rcases hf with h|h|h|h<;>simp [h])
theorem fr3(h:EffOK E (x3::x0::x1::x2::O) G o post t):EffOK E (x0::x1::x2::x3::O) G o post t:=h.perm (fun hw=>nr hw) (fun f hf=>by simp only [fS]at hf ⊢;rcases hf with h|h|h|h|h<;>simp [h])
theorem fr4(h:EffOK E (x4::x0::x1::x2::x3::O) G o post t):EffOK E (x0::x1::x2::x3::x4::O) G o post t:=h.perm (fun hw=>nq hw) (fun f hf=>by simp only [fS]at hf ⊢;rcases hf with h|h|h|h|h|h<;>simp [h])
theorem fr5(h:EffOK E (x5::x0::x1::x2::x3::x4::O) G o post t):EffOK E (x0::x1::x2::x3::x4::x5::O) G o post t:=h.perm (fun hw=>np hw) (fun f hf=>by simp only [fS]at hf ⊢;rcases hf with h|h|h|h|h|h|h<;>simp [h])
theorem fr6{x6:OE}(h:EffOK E (x6::x0::x1::x2::x3::x4::x5::O) G o post t):EffOK E (x0::x1::x2::x3::x4::x5::x6::O) G o post t:=h.perm (fun hw=>pO hw) (fun f hf=>by simp only [fS]at hf ⊢;rcases hf with h|h|h|h|h|h|h|h<;>simp [h])
theorem fr7{x6 x7:OE}(h:EffOK E (x7::x0::x1::x2::x3::x4::x5::x6::O) G o post t):EffOK E (x0::x1::x2::x3::x4::x5::x6::x7::O) G o post t:=h.perm (fun hw=>pN hw) (fun f hf=>by simp only [fS]at hf ⊢;rcases hf with h|h|h|h|h|h|h|h|h<;>simp [h])
theorem post_imp{post' :OI→List OE}(h:EffOK E O G o post t)(k: ∀{w S x},co E.base E.B w S (post x)→co E.base E.B w S (post' x)):EffOK E O G o post' t:=fun a w S hs ho hf hb=>
 jH (fun _ _ ⟨v,S',x,h1,h2,h3,h4,h5⟩=>⟨v,S',x,h1,h2,h3,k h4,h5⟩) (h a w S hs ho hf hb)
end
end EffOK
variable{ats:Array TypeId}{mm:Bool}
section
variable{ty:TypeId}
theorem Cc{zs:List α}{y v:α}{i:Int}{p:Operand}(ti:TI E.P U sz bytes agg z)(hsz:r.sz=sz)(hy:eh xs i=some y)(hz:xs.set i.toNat v=zs)(hp:aL E.N G p (tV (aE b (i.toNat*r.sz))))(hv:aL E.N G x (tD r v)):EffOK E (bx (oF r n) T b xs::O) G ⟨none,.store U p x,ty,pos,after,g⟩ (fun _=>bx (oF r n) T b zs::O) (fun _=>tL):=wz (fun _ h=>(by cases h)) fun a w S hsat hown hf hbase=>by
 subst hz
 have h1:a.eval p=aE b (i.toNat*r.sz):=hp S a hf
 obtain⟨ds,h2,h3⟩:=hv S a hf
 obtain⟨⟨hno,cur,h5,h6⟩,_⟩:=hown.1
 obtain⟨h0,hy'⟩:=hM hy
 have hlt:i.toNat<xs.length:=(mC.1 hy').1
 have hl:=j9 h6.2
 simp only [Be]at hl
 have hmul:i.toNat*r.sz+r.sz≤xs.length*r.sz:=by rw [←Nat.succ_mul];exact u5 _ hlt
 obtain⟨w',hr,e1,e2,e3,e4,e5,e6⟩:=f8 ti hsz h3 h5 (off:=i.toNat*r.sz) (by omega)
 have hrun:(execOp a.eval ⟨none,.store U p x,ty,pos,after,g⟩).run E.P w= .ok .skip w' :=by
  simp [execOp,h1,h2,Instr.storeAt,aE,Instr.sureAddr,hr]
 obtain⟨g1,g2,g3⟩:=lz (O:=O) hsat (bx (oF r n) T b xs) (bx (oF r n) T b (xs.set i.toNat v)) hown (fun _=>Iff.rfl) (fun _=>Iff.rfl) ⟨e1,e2,e3,e4.1,e4.2⟩ e6 ⟨hno,_,e5,by rw [List.length_set];exact h6.1,yV h3 h6.2 hlt⟩ hno
 exact⟨w',S,lm,hrun,g1.more fun c hc=>⟨_,oQ ..,hc⟩,g2,g3⟩

section
theorem eo{x:α}(ti:TI E.P T sz bytes agg z)(hx: ∀S,r.rc S z x):
  EffOK E O G ⟨some d,.alloc T,ty,pos,after,g⟩ (fun i=>bx r T (i.h 0).2 x::O) (fun i=>tV (aE (i.h 0).2 0)):=fun a w S hs ho hf hb=>by
 obtain⟨zv,hzr,hzc⟩:=ti.zero w
 obtain⟨he,hs',hno⟩:=dv (w:=w) (.cells z.toArray T (0,0)) hs
 have hrun:(execOp a.eval ⟨some d,.alloc T,ty,pos,after,g⟩).run E.P w= .ok (.value (aE w.heap.size 0)) (w.alloc (.cells z.toArray T (0,0))):=by
  simp [execOp,Instr.alloc,hzr,newVar,newRow,hzc,aE]
 refine⟨fun c h=>(by cases h),?_⟩
 rw [hrun]
 exact⟨_,S,oi none w.heap.size,rfl,he.more fun _ hb=>hb.elim,hs',kX ho he (e:=bx r T w.heap.size x) ⟨hno,z.toArray,vA w _,by simpa using hx S⟩ (fun b hb=>ym hb.symm) hb,rfl⟩
theorem xZ{xs:List Operand}(hc:ak E.P f=true)(hs:eG E.P f ts false r T ys)(hx:fz E.N G xs ts):
  EffOK E O G ⟨some d,.call ⟨.value (.func f),xs.toArray,ats⟩,ty,pos,after,g⟩ (fun i=>d9 r T (i.h 0).1 (i.h 0).2 ys::O) (fun i=>tV (aC (i.h 0).1 (i.h 0).2 ys.length)):=D4 (mm:=false) hc hs hx (fun _ _ _ _ _=>rfl)
end
section
theorem dJ{l:Option Nat}{o i:Nat}{y:α}{j:Int}{p:Operand}(hf:bJ E.P T i=some (off,sz))(h0:Nat.beq sz 0=false)(hm:hU mm r U l cap xs∈O)(hy:eh xs j=some y)(hp:aL E.N G p (tV (jg l o)))(he:o+off=n):
  bN E O G ⟨dst,.fieldAddr T p i,ty,pos,after,g⟩ (tV (jg l n)):=by
 subst he
 exact xb hf h0 hm hy hp
theorem cU(hx:aL E.N G x (tV (aE b off))):bN E O G ⟨dst,.nilCheck x,ty,pos,after,g⟩ (tV (aE b off)):= .of_pure fun a w S _ _ hf=>by
 have h1:a.eval x=aE b off:=hx S a hf
 exact⟨aE b off,by simp [execOp,h1,aE],rfl⟩
theorem yX{y:α}(hx:aL E.N G x (bl r y)):bN E O G ⟨dst,.nilCheck x,ty,pos,after,g⟩ (bl r y):= .of_pure fun a w S _ _ hf=>by
 have h0:=hx S a hf
 obtain⟨b,off,c,U,fr,h1,h2,h3⟩:=h0
 exact⟨_,by simp [execOp,h1],b,off,c,U,fr,rfl,h2,h3⟩
theorem m4{p:Operand}(ti:TI E.P U 1 bytes false z)(hm:bx rV T b u∈O)(hp:aL E.N G p (tV (aE b 0))):
  bN E O G ⟨dst,.load U p,ty,pos,after,g⟩ (tV u):=(aW (q:=rV) (get:=fun x=>x) ti rfl rfl bp hm hp).imp fun _ _ h=>(oZ.1 h).1
theorem gr{t:Ty}{p:Operand}(ti:TI E.P U 1 bytes false z)(hp:aL E.N G p (bl (rT t) ())):bN E O G ⟨dst,.load U p,ty,pos,after,g⟩ t:=sQ ti hp
end
theorem tq(h:O=O')(k:RG E ops Q rest O' G):RG E ops Q rest O G:=by subst h;exact k
theorem FY(h:O=O')(k:AT E Q e O' G):AT E Q e O G:=by subst h;exact k
theorem hW{N:Fr}(h:aL N G x (tV u))(ho:u.oneCell' =true):aL N G x (tD rV u):=fun S a hf=>oZ.2 ⟨h S a hf,ho⟩
end

theorem zZ{l:Option Nat}{t' e' :TypeId}(ht:P.underlying t' =some (.slice e'))(h:vi mm r U l cap xs w S)(hs:dw xs lo (xs.length:Int)=some ys):
  ∃news,Src P r.sz t' (jh r.sz l cap lo.toNat ys.length) ys.length news w∧oE r S news ys:=by
 obtain⟨cells,h1,h2,_⟩:=h
 obtain⟨lo',m,rfl,hm,h3,h4,rfl⟩:=ed hs
 have hm' :m=xs.length:=by omega
 subst hm'
 rw [De,zL]
 cases l with
 |none=>
  have hx:xs=[]:=tG h1.1
  subst hx
  exact⟨[],by simpa [jh] using Src.ofNil w ht 0,by simp [oE]⟩
 |some b=>
  obtain⟨cur,g1,g2,g3,g4,g5⟩:=h1
  have hlen:(xs.drop lo').length=xs.length-lo' :=by simp
  have hcl:=j9 h2
  have hsp:xs=xs.take lo' ++xs.drop lo' :=(pY lo' xs).symm
  have htl:(xs.take lo').length=lo' :=by simp;omega
  have hr:oE r S (cells.drop (lo' *r.sz)) (xs.drop lo'):=by
   rw [hsp]at h2
   have:=(lv h2).2
   rwa [htl]at this
  have hmul:lo' *r.sz≤xs.length*r.sz:=u5 _ h3
  refine⟨cells.drop (lo' *r.sz),?_,hr⟩
  unfold jh
  refine Src.ofSlice w ht _ _ _ _ (j9 hr) (fun j u hu=>?_) (vm hr)
  by_cases hc:cap=lo'
  ·have:xs.drop lo' =[]:=Dk (by omega)
   rw [this]at hr
   have hr' :cells.drop (lo' *r.sz)=[]:=hr
   rw [hr']at hu;simp at hu
  ·simp only [hc,sv]
   rw [eQ,tk g1]
   rw [u4,←g5]at hu
   have hj:lo' *r.sz+j<xs.length*r.sz:=by
    have:=(mC.1 hu).1
    simp at this;omega
   rw [wU hj]at hu
   simpa using hu
section
variable{ty:TypeId}
theorem Ed{l:Option Nat}{yt e:TypeId}(ht:E.P.underlying t=some (.slice e))(hm:hU mm r U l cap xs∈O)(hs:dw xs lo (xs.length:Int)=some ys)(hx:aL E.N G x (tV (jh r.sz l cap lo.toNat ys.length)))(hd:Nat.blt d E.N.n=true)(k: ∀b,(b=true→ys=[])→RG E ops Q rest O ((d,tD rB b)::G)):RG E ops Q (⟨some d,.binOp .eql t x (.const (.slice none 0 0)) yt,ty,pos,after,none⟩::rest) O G:= .of rfl fun a w S st=>by
 have h1:a.eval x=jh r.sz l cap lo.toNat ys.length:=hx S a st.facts
 obtain⟨⟨cells,hraw,_⟩,_⟩:=st.own.mem _ hm
 have hcn:a.eval (.const (.slice none 0 0))= .slice none 0 0:=rfl
 cases l with
 |none=>
  have hx0:xs=[]:=tG hraw.1
  have hy0:ys=[]:=by
   obtain⟨lo',m,_,_,_,_,rfl⟩:=ed hs
   subst hx0;simp
  have h3:(Op.equal t (.slice none 0 0) (.slice none 0 0)).run E.P w= .ok true w:=yR fun d=>by
   simp [Op.equalIn,gO ht]
  have hrun:(execOp a.eval ⟨some d,.binOp .eql t x (.const (.slice none 0 0)) yt,ty,pos,after,none⟩).run E.P w= .ok (.value (.bool true)) w:=by
   simp [execOp,h1,jh,hcn,eqGuard,binOp,h3]
  refine⟨fun c h=>(by cases h),?_⟩
  rw [hrun]
  exact k true (fun _=>hy0) _ _ S (st.step (dI _ _ _) st.sat hd (fj.2 rfl))
 |some b=>
  obtain⟨ad,hv⟩: ∃ad,jh r.sz (some b) cap lo.toNat ys.length= .slice (some ad) ys.length (cap-lo.toNat):=⟨_,rfl⟩
  have h3:(Op.equal t (.slice (some ad) ys.length (cap-lo.toNat)) (.slice none 0 0)).run E.P w= .ok false w:=yR fun d=>by
   simp [Op.equalIn,gO ht]
  have hrun:(execOp a.eval ⟨some d,.binOp .eql t x (.const (.slice none 0 0)) yt,ty,pos,after,none⟩).run E.P w= .ok (.value (.bool false)) w:=by
   simp [execOp,h1,hv,hcn,eqGuard,binOp,h3]
  refine⟨fun c h=>(by cases h),?_⟩
  rw [hrun]
  exact k false (fun e=>(by cases e)) _ _ S (st.step (dI _ _ _) st.sat hd (fj.2 rfl))
theorem Cm{t' :TypeId}{l l2:Option Nat}{cap2:Nat}{zs us:List α}{y:Operand}(ti:TI E.P T sz bytes agg z)(hsz:r.sz=sz)(hz:Nat.beq z.length sz=true)(h0:Nat.blt 0 sz=true)(h128:Nat.ble bytes 2048=true)(ht:E.P.underlying t=some (.slice T))(ht' :t' =t)(hd:Nat.blt d E.N.n=true)(hx:aL E.N G x (tV (aC l cap n)))(hm:hU mm r U l2 cap2 us∈d9 r T l cap xs::O)(hs:dw us lo (us.length:Int)=some ys)(hy:aL E.N G y (tV (jh r.sz l2 cap2 lo.toNat ys.length)))(happ:kB xs ys=some zs)(k: ∀l' cap',RG E ops Q rest (d9 r T l' cap' zs::O) ((d,tV (aC l' cap' zs.length))::G))(hn:n=xs.length:=by rfl):
  RG E ops Q (⟨some d,.call ⟨.builtin .append,#[x,y],#[t,t']⟩,ty,pos,after,none⟩::rest) (d9 r T l cap xs::O) G:=by
 subst ht'
 exact sr (u:=fun cap' l' =>tV (aC l' cap' zs.length)) ti hsz hz h0 h128 ht hd hx (fun a w S st=>by
  have h1:a.eval y=jh r.sz l2 cap2 lo.toNat ys.length:=hy S a st.facts
  rw [h1]
  exact zZ ht (st.own.mem _ hm).1 hs) happ (fun _ _ _ _ _=>rfl) k hn
end

abbrev Db(α X:Type):=(σ:Type)→(α→σ→Option (Bool×σ))→σ→Option (σ×X)
def Dc(P:Program){α X:Type}(args:α→List Ty)(it:Db α X)(Ob:X→OI→List OE)(fid:FuncId)(cap:Array Value)(fp:Nat→Prop)(w:World)(S:SH):Prop:=
 ∀(σ:Type) (y:α→σ→Option (Bool×σ)) (s:σ) (R:σ×X),it σ y s=some R→ ∀I yv,JI P args y I yv→ ∀e,I s e→e.p w S→(∀k,e.fp k→ ¬fp k)→
  Calls P fid (#[yv]++cap) w fun en w' => ∃e' S' j,(∃v,en= .returned v)∧I R.1 e' ∧dV (fun k=>e.fp k∨fp k) w S w' S' ∧eR w' S' ∧e'.p w' S' ∧co 0 kH w' S' (Ob R.2 j)∧(∀k,e'.fp k∨sh (Ob R.2 j) k→(e.fp k∨fp k)∨w.heap.size≤k)∧ ∀k,e'.fp k→ ¬sh (Ob R.2 j) k
def y7(P:Program){α X:Type}(args:α→List Ty)(it:Db α X)(Ob:X→OI→List OE)(v:Value)(fp:Nat→Prop):OE where
 fp:=fp
 p:=fun w S=>(∀k,fp k→k<w.heap.size)∧ ∃fid cap,v= .func (.func fid) #[] cap∧ak P fid=true∧
  ∀C w' S',dV C w S w' S' →(∀k,fp k→ ¬C k)→eR w' S' →Dc P args it Ob fid cap fp w' S'
 here:=fun h k hk=>h.1 k hk
 kept:=by
  rintro C w w' S S' ⟨h1,fid,cap,h2,h3,h4⟩ k hC
  refine⟨fun b hb=>Bd (h1 b hb) k.size,fid,cap,h2,h3,fun C' w'' S'' k' hC' hs=>?_⟩;exact h4 (fun b=>C b∨C' b) w'' S'' ((k.more fun b hb=> .inl hb).trans (k'.more fun b hb=> .inr hb)) (fun b hb h=>h.elim (hC b hb) (hC' b hb)) hs
def Ke:Unit→OI→List OE:=fun _ _=>[]
def itU{α:Type}(it:It α):Db α Unit:=fun σ y s=>(it σ y s).map fun r=>(r,())
variable{args:α→List Ty}{s:jy}
theorem Kg{it:It α}(h:(HB P args it v fp).p w S):(y7 P args (itU it) Ke v fp).p w S:=by
 obtain⟨h1,fid,cap,h2,h3,h4⟩:=h
 refine⟨h1,fid,cap,h2,h3,fun C w' S' k hC hs σ y s R hit I yv hy e he hep hap=>?_⟩
 unfold itU at hit
 cases hq:it σ y s with
 |none=>rw [hq]at hit;cases hit
 |some s' =>
  rw [hq]at hit
  obtain rfl:(s',())=R:=by simpa using hit
  refine(h4 C w' S' k hC hs σ y s s' hq I yv hy e he hep hap).mono ?_
  rintro en w2 ⟨e',S2,g1,g2,g3,g4,g5,g6⟩
  exact⟨e',S2,lm,g1,g2,g3,g4,g5,trivial,fun k hk=>hk.elim (fun h=>(g6 k h).imp .inl id) (fun⟨_,h,_⟩=>by cases h),fun k _ ⟨_,h,_⟩=>by cases h⟩
section
variable{it:It α}
theorem JL(h:CG E Q c (y7 P args (itU it) Ke v fp::O) G):CG E Q c (HB P args it v fp::O) G:=fun a w S st=>h a w S (st.own_map fun⟨⟨g1,g2⟩,g3,g4⟩=>⟨⟨Kg g1,g2⟩,g3,g4⟩)
end

def tv(P:Program)(fid:FuncId){α X:Type}(args:α→List Ty)(it:Db α X)(Ob:X→OI→List OE)(O:List OE)(cts:List Ty):Prop:=
 ∀w S cap,eR w S→co 0 kH w S O→p7 S cts cap→Dc P args it Ob fid cap.toArray (sh O) w S
def FB(E:En){σ X:Type}(I:σ→OE→Prop)(R:σ×X)(Ob:X→OI→List OE):Ending→World→Prop:=fun en w' => ∃e' S' j,(∃v,en= .returned v)∧I R.1 e' ∧dV E.B E.w0 E.S0 w' S' ∧eR w' S' ∧e'.p w' S' ∧co 0 kH w' S' (Ob R.2 j)∧(∀k,e'.fp k∨sh (Ob R.2 j) k→E.B k∨E.w0.heap.size≤k)∧ ∀k,e'.fp k→ ¬sh (Ob R.2 j) k
variable{Ob:X→OI→List OE}
theorem tv.of{it:Db α X}{cts:List Ty}(hf:P.funcs[f]? =some fn)(hb:fn.body=some c)(hN:fn.ntmps=N)(hn:Nat.ble (cts.length+1) N=true)(h: ∀(σ:Type) (y:α→σ→Option (Bool×σ)) (s:σ) (R:σ×X),it σ y s=some R→ ∀I yv,JI P args y I yv→ ∀e,I s e→ ∀w0 S0 B,(∀k,B k→e.fp k∨ ∃f∈O,f.fp k)→
   CG ⟨P,⟨N,[]⟩,B,w0,S0,none⟩ (bodyPost P fn (FB ⟨P,⟨N,[]⟩,B,w0,S0,none⟩ I R Ob)) c (e::O) (nO 0 (tV yv::cts))):tv P f args it Ob O cts:=by
 subst hN
 intro w S cap hs ho hc σ y s R hit I yv hy e he hep hap
 have hown:co w.heap.size (fun k=>e.fp k∨ ∃f∈O,f.fp k) w S (e::O):=
  ⟨⟨hep,fun k hk=> .inr (.inl hk)⟩,fun f hf b hb hfb=>hap b hb ⟨f,hf,hfb⟩,gc ho fun f hf k hk=> .inr (.inr ⟨f,hf,hk⟩)⟩
 have hfacts:=jv (S:=S) (ts:=tV yv::cts) (vs:=yv::cap) ⟨rfl,hc⟩ fn.ntmps (by simpa using kD hn)
 have:=fO.1 (A9 (F:=fw none) (n:=0) hf hb trivial (h σ y s R hit I yv hy e he w S (fun k=>e.fp k∨ ∃f∈O,f.fp k) (fun _ h=>h) _ w S ⟨dI _ _ _,hs,hown,hfacts⟩))
 rw [show(#[yv]++cap.toArray:Array Value)=(yv::cap).toArray from by simp]
 exact this.mono fun en w' ⟨e',S',j,h1,h2,h3,h4,h5,h6,h7,h8⟩=>⟨e',S',j,h1,h2,h3,h4,h5,h6,h7,h8⟩
theorem A7{I:σ→OE→Prop}{R:σ×X}{e:OE}(hr:fn.results= #[])(he:I R.1 e)(j:OI)(hO:O=Ob R.2 j):
  AT ⟨P,⟨N,[]⟩,B,w0,S0,none⟩ (bodyPost P fn (FB ⟨P,⟨N,[]⟩,B,w0,S0,none⟩ I R Ob)) .ret (e::O) G:=fun _ _ S st=>by
 subst hO
 refine⟨st.facts.defers,_,oD P fn hr _ _,e,S,j,⟨_,rfl⟩,he,st.ext,st.sat,st.own.1.1,st.own.2.2.weak,fun k hk=>?_,fun k hk ⟨f,hf,hfk⟩=>st.own.2.1 f hf k hk hfk⟩
 rcases hk with hk|⟨f,hf,hk⟩
 ·exact(st.own.1.2 k hk).symm
 ·exact((co.mem st.own.2.2 f hf).2 k hk).symm
theorem Er{I:σ→OE→Prop}{R:σ×X}{e:OE}(hr:fn.results= #[])(he:I R.1 e)(j:OI)(hO:O=Ob R.2 j):
  AT ⟨P,⟨N,[]⟩,B,w0,S0,none⟩ (bodyPost P fn (FB ⟨P,⟨N,[]⟩,B,w0,S0,none⟩ I R Ob)) .normal (e::O) G:=fun a w S st=>A7 hr he j hO a w S st
def tp(P:Program)(f:FuncId)(ts:List Ty)(O1:List OE){α X:Type}(args:α→List Ty)(it:Db α X)(Ob:X→OI→List OE):Prop:=
 ∀w S vs,eR w S→p7 S ts vs→co 0 kH w S O1→Calls P f vs.toArray w fun e w' => ∃v fp S',e= .returned v∧dV (sh O1) w S w' S' ∧eR w' S' ∧(y7 P args it Ob v fp).p w' S' ∧ ∀k,fp k→sh O1 k∨w.heap.size≤k
def FA(E:En)(O1:List OE){α X:Type}(args:α→List Ty)(it:Db α X)(Ob:X→OI→List OE):Ending→World→Prop:=fun e w' => ∃v fp S',e= .returned v∧dV E.B E.w0 E.S0 w' S' ∧eR w' S' ∧(y7 E.P args it Ob v fp).p w' S' ∧ ∀k,fp k→sh O1 k∨E.w0.heap.size≤k
variable{O1:List OE}
theorem tp.of{it:Db α X}(hf:P.funcs[f]? =some fn)(hb:fn.body=some c)(hN:fn.ntmps=N)(hn:Nat.ble ts.length N=true)(h: ∀w0 S0,CG ⟨P,⟨N,[]⟩,sh O1,w0,S0,none⟩ (bodyPost P fn (FA ⟨P,⟨N,[]⟩,sh O1,w0,S0,none⟩ O1 args it Ob)) c O1 (nO 0 ts)):tp P f ts O1 args it Ob:=by
 subst hN
 intro w S vs hs hv ho
 exact fO.1 (A9 (F:=fw none) (n:=0) hf hb trivial (h w S _ w S ⟨dI _ _ _,hs,gc ho fun f hf k hk=> .inr ⟨f,hf,hk⟩,jv hv _ (kD hn)⟩))
theorem Ep{it:Db α X}(hr:fn.results= #[.tmp k])(hk:look G k=some (tV v)):
  AT ⟨P,⟨N,[]⟩,sh O1,w0,S0,none⟩ (bodyPost P fn (FA ⟨P,⟨N,[]⟩,sh O1,w0,S0,none⟩ O1 args it Ob)) .ret (y7 P args it Ob v fp::O) G:=fun a w S st=>by
 have hv:a.tmps.getD k undef=v:=st.facts.at_ k _ hk
 exact⟨st.facts.defers,_,iG P fn k hr _ _,v,fp,S,by rw [hv],st.ext,st.sat,st.own.1.1,fun k hk=>(st.own.1.2 k hk).symm⟩
section
variable{ty:TypeId}
theorem Cl{xs:List Operand}(O1 Or:List OE){it:Db α X}(hO:O=O1++Or)(hc:ak E.P f=true)(hs:tp E.P f ts O1 args it Ob)(hx:fz E.N G xs ts)(hd:Nat.blt d E.N.n=true)(k: ∀v fp,RG E ops Q rest (y7 E.P args it Ob v fp::Or) ((d,tV v)::G)):
  RG E ops Q (⟨some d,.call ⟨.value (.func f),xs.toArray,ats⟩,ty,pos,after,none⟩::rest) O G:= .of rfl fun a w S st=>by
 subst hO
 have hr:(execOp a.eval ⟨some d,.call ⟨.value (.func f),xs.toArray,ats⟩,ty,pos,after,none⟩).run E.P w= .ok (.enter f (xs.map a.eval).toArray) w:=by
  simp [execOp,resolve,Act.eval,Deferred.ofValue,invoke,dO hc]
 refine⟨fun c h=>(by cases h),?_⟩
 rw [hr]
 refine(hs w S _ st.sat (hx.tys st.facts) (iP st.own).1.weak).mono fun e w' ⟨v,fp,S',he,h1,h2,h3,h4⟩=>⟨_,he,?_⟩
 have st' :=st.turn (O2:=[y7 E.P args it Ob v fp]) h1 h2 ⟨⟨h3,fun _ _=> .inl (iQ _)⟩,fun _ h=>(by cases h),trivial⟩ (fun k ⟨f,hf,hk⟩=>by
  rw [zP.1 hf]at hk;exact h4 k hk)
 exact k v fp _ _ S' (st'.put hd rfl)
theorem zz{fid:FuncId}{O2:List OE}{it:Db α X}{cts:List Ty}{caps:List Operand}(hO:O=O1++O2)(hc:ak E.P fid=true)(hs:tv E.P fid args it Ob O1 cts)(hcap:fz E.N G caps cts)(hd:Nat.blt d E.N.n=true)(k: ∀v fp,RG E ops Q rest (y7 E.P args it Ob v fp::O2) ((d,tV v)::G)):
  RG E ops Q (⟨some d,.makeFunc (.func fid) #[] caps.toArray,ty,pos,after,none⟩::rest) O G:= .of rfl fun a w S st=>by
 subst hO
 have hr:(execOp a.eval ⟨some d,.makeFunc (.func fid) #[] caps.toArray,ty,pos,after,none⟩).run E.P w= .ok (.value (.func (.func fid) #[] (caps.map a.eval).toArray)) w:=by simp [execOp,Instr.makeFunc]
 refine⟨fun c h=>(by cases h),?_⟩
 rw [hr]
 obtain⟨h1,h2,h3⟩:=iP st.own
 have hcv:=hcap.tys st.facts
 refine k (.func (.func fid) #[] (caps.map a.eval).toArray) (sh O1) _ _ S ⟨st.ext,st.sat,?_,st.facts.put hd rfl⟩;refine co.cons ⟨⟨fun b ⟨f,hf,hb⟩=>f.here (co.mem h1 f hf).1 b hb,fid,_,rfl,hc,fun C w' S' he hC hs' =>?_⟩,fun b ⟨f,hf,hb⟩=>(co.mem h1 f hf).2 b hb⟩ (fun f hf b ⟨g,hg,hb⟩=>h3 g hg f hf b hb) h2;exact hs w' S' _ hs' (h1.weak.ext he fun f hf b hb=>hC b ⟨f,hf,hb⟩) (hcv.mono he.keep)
end

def mi(l:Nat)(r:Loop)(st:LoopState)(pd:Option Code):OE where
 fp:=fun k=>k=l
 p:=fun w S=>S l=none∧w.heap[l]? =some (.loop {r with state:=st,pending:=pd})
 here:=by
  intro w S h k hk
  subst hk
  exact(oc.1 h.2).1
 kept:=by
  intro C w w' S S' h k hC
  have hlt:=(oc.1 h.2).1
  exact⟨by rw [k.old l hlt (hC l rfl)];exact h.1,by rw [k.heap l hlt (hC l rfl)];exact h.2⟩
def Hz(j:Option Nat):LoopState:=if j.isNone then .ready else .done
def Ge(E:En)(l:Nat)(rec:Loop){σ ι:Type}(Oi:ι→List OE)(dat:ι→σ)(jc:Nat→Code)(r:Option Nat×σ):Ending→World→Prop:=fun en w' =>
 ∃i S',en= .returned (.bool r.1.isNone)∧dat i=r.2∧dV E.B E.w0 E.S0 w' S' ∧eR w' S' ∧co E.base E.B w' S' (mi l rec (Hz r.1) (r.1.map jc)::Oi i)
def wC{α σ:Type}(f:α→σ→Option (Option Nat×σ)):α→Option Nat×σ→Option (Bool×(Option Nat×σ)):=fun x s=>
 match s.1 with
 |some _=>none
 |none=>(f x s.2).map fun r=>(r.1.isNone,r)
variable{rec:Loop}{ι:Type}
section
theorem sP{l:Nat}{st st' :LoopState}{pd pd' :Option Code}{O:List OE}(h:co base B w S (mi l rec st pd::O))(hs:eR w S):
  dV (fun k=>k=l) w S (w.putObj l (.loop {rec with state:=st',pending:=pd' })) S∧eR (w.putObj l (.loop {rec with state:=st',pending:=pd' })) S∧co base B (w.putObj l (.loop {rec with state:=st',pending:=pd' })) S (mi l rec st' pd' ::O):=by
 obtain⟨hno,hl⟩:=h.1.1
 have hlt:=(oc.1 hl).1
 have hext:dV (fun k=>k=l) w S (w.putObj l (.loop {rec with state:=st',pending:=pd' })) S:=⟨rfl,rfl,rfl,fG _,by simp,fun k _ hk=>World.putObj_heap_other hk,SH.le_refl _,fun _ _ _=>rfl⟩
 refine⟨hext,hs.same fun k o hk=>?_,⟨⟨hno,World.putObj_heap_same hlt⟩,h.1.2⟩,h.2.1,h.2.2.ext hext fun g hg k hk hkl=>h.2.1 g hg k hkl hk⟩
 have hne:k≠l:=fun e=>by subst e;rw [hno]at hk;cases hk
 exact World.putObj_heap_other hne
theorem yl{l:Nat}{body:Code}{R:Ending→World→Prop}(h:CG E (roundPost E.P l R) body (mi l rec .busy none::O) G):AT E (Hr E l body R) .normal (mi l rec .ready none::O) G:=fun a w S st=>by
 obtain⟨h1,h2,h3⟩:=sP (st' := .busy) (pd' :=none) st.own st.sat
 obtain⟨_,hl⟩:=st.own.1.1
 exact⟨_,run_beginRound hl rfl,h a _ S ⟨st.ext.step h1 (fun c hc=>st.own.1.2 c hc),h2,h3,st.facts⟩⟩
theorem zE{l:Nat}{Oi:ι→List OE}{dat:ι→σ}{jc:Nat→Code}{s2:σ}(i:ι)(hi:dat i=s2)(hO:O=Oi i):AT E (roundPost E.P l (Ge E l rec Oi dat jc (none,s2))) .normal (mi l rec .busy none::O) G:=fun a w S st=>by
 subst hO
 obtain⟨h1,h2,h3⟩:=sP (st' := .ready) (pd' :=none) st.own st.sat
 obtain⟨_,hl⟩:=st.own.1.1
 exact⟨_,_,run_endRound none hl,i,S,rfl,hi,st.ext.step h1 (fun c hc=>st.own.1.2 c hc),h2,h3⟩
theorem tA{l:Nat}{Oi:ι→List OE}{dat:ι→σ}{jc:Nat→Code}{s2:σ}(q:Nat)(hq:jc q= .ret)(i:ι)(hi:dat i=s2)(hO:O=Oi i):AT E (roundPost E.P l (Ge E l rec Oi dat jc (some q,s2))) .ret (mi l rec .busy none::O) G:=fun a w S st=>by
 subst hO
 obtain⟨h1,h2,h3⟩:=sP (st' := .done) (pd' :=some .ret) st.own st.sat
 obtain⟨_,hl⟩:=st.own.1.1
 exact⟨_,_,run_endRound (some .ret) hl,i,S,rfl,hi,st.ext.step h1 (fun c hc=>st.own.1.2 c hc),h2,by rw [Option.map_some,hq];exact h3⟩
theorem yf{it:Db α X}(Oi:ι→List OE)(dat:ι→σ)(jc:Nat→Code){f:α→σ→Option (Option Nat×σ)}{R:(Option Nat×σ)×X}{g:Operand}{ps:List Nat}{assign body:Code}(hr:E.r=none)(hg:aL E.N G g (tV v))(i0:ι)(hO:O=y7 E.P args it Ob v fp::Oi i0)(hit:it (Option Nat×σ) (wC f) (none,dat i0)=some R)(hps: ∀x,ps.length=(args x).length)(hpn:(ps.all fun d=>Nat.blt d E.N.n)=true)(hbody: ∀(i:ι) (x:α) (r:Option Nat×σ),f x (dat i)=some r→ ∀(l:Nat) (rec:Loop) (w1:World) (S1:SH) (B1:Nat→Prop),
   CG ⟨E.P,⟨E.N.n,[]⟩,B1,w1,S1,some l⟩ (Hr ⟨E.P,⟨E.N.n,[]⟩,B1,w1,S1,some l⟩ l body (Ge ⟨E.P,⟨E.N.n,[]⟩,B1,w1,S1,some l⟩ l rec Oi dat jc r)) assign (mi l rec .ready none::Oi i) (xC ps (args x) G))(k: ∀i' j,dat i' =R.1.2→ ∀b,(R.1.1=none→AT ⟨E.P,⟨E.N.n,qD b::E.N.ds⟩,E.B,E.w0,E.S0,E.r⟩ Q .normal (ve b::(Ob R.2 j++Oi i')) G)∧
   (∀q,R.1.1=some q→CG ⟨E.P,⟨E.N.n,qD b::E.N.ds⟩,E.B,E.w0,E.S0,E.r⟩ Q (jc q) (ve b::(Ob R.2 j++Oi i')) G)):CG E Q (.rangeFunc g ps.toArray assign body) O G:=fun a w S st=>by
 subst hO
 refine wpIn_rangeFunc fun fn _=>?_
 have hr0:(fw E.r).round=none:=hr
 have hfw:fw E.r=fw none:=by rw [hr]
 rw [hr0]
 obtain⟨rec,hrec⟩: ∃rec:Loop,rec={state:= .ready,pending:=none,fn,tmps:=a.tmps,params:=ps.toArray,assign,body,defers:=w.heap.size}:=⟨_,rfl⟩
 obtain⟨x1,x2,x3⟩:=dv (w:=w) (.deferred (some [])) st.sat
 obtain⟨y1,y2,y3⟩:=dv (w:=w.alloc (.deferred (some []))) (.loop rec) x2
 obtain⟨W1,hW1⟩: ∃W1,(w.alloc (.deferred (some []))).alloc (.loop rec)=W1:=⟨_,rfl⟩
 rw [hW1]at y1 y2
 have hsz:(w.alloc (.deferred (some []))).heap.size=w.heap.size+1:=by simp
 rw [hsz]at y3
 have hext:dV kH w S W1 S:=x1.trans y1
 have hL1:W1.heap[w.heap.size+1]? =some (.loop rec):=by
  rw [←hW1];have:=World.alloc_heap_new (w.alloc (.deferred (some []))) (.loop rec);rwa [hsz]at this
 have hK1:W1.heap[w.heap.size]? =some (.deferred (some [])):=by
  rw [y1.heap w.heap.size (by omega) (fun h=>h)];exact World.alloc_heap_new w _
 have hW1s:W1.heap.size=w.heap.size+2:=by rw [←hW1];simp
 have hg' :a.eval g=v:=hg S a st.facts
 obtain⟨hit1,hap,hoi⟩:=st.own
 obtain⟨⟨hfp,gf,cap,hv,hcal,hcall⟩,hbase⟩:=hit1
 have hbl:=st.base_le
 have hoi1:co E.base E.B W1 S (Oi i0):=hoi.ext0 hext
 have hlt: ∀f∈Oi i0,∀k,f.fp k→k<w.heap.size:=fun f hf k hk=>f.here (co.mem hoi f hf).1 k hk
 refine⟨w.heap.size+1,[qD w.heap.size],W1,{target:= .fn (.func gf) cap,args:= #[.func (.yield (w.heap.size+1)) #[] #[]]},W1,gf,
  #[.func (.yield (w.heap.size+1)) #[] #[]]++cap,W1,?_,?_,fun _ _=>trivial,?_,fun h=>(by cases h),?_⟩
 ·rw [←hW1,hrec];exact run_enterLoop_outer _ _ _ _ _
 ·simp only [resolve,hg',hv]
  simp [go_sem]
 ·simp [invoke,go_sem,dO hcal]
 rw [hfw]
 refine fO.2 ?_
 have hyld:JI E.P args (wC f) (fun s e=> ∃i,dat i=s.2∧e=ll S (mi (w.heap.size+1) rec (Hz s.1) (s.1.map jc)::Oi i)) (.func (.yield (w.heap.size+1)) #[] #[]):=by
  refine⟨_,rfl,?_⟩
  rintro x ⟨j0,s⟩ r hy e ⟨i,hi,rfl⟩ w2 S2 vs hs2 ⟨hle,hown⟩ hvs
  cases j0 with
  |some q=>unfold wC at hy;cases hy
  |none=>
  have hi' :dat i=s:=hi
  subst hi'
  obtain⟨r2,hs2',rfl⟩: ∃r2,f x (dat i)=some r2∧r=(r2.1.isNone,r2):=by
   unfold wC at hy
   cases hf:f x (dat i)with
   |none=>simp only [hf]at hy;cases hy
   |some s2=>simp only [hf]at hy;exact⟨s2,rfl,by simpa using hy.symm⟩
  have hl2:=hown.1.1.2
  have hvl:=hvs.length
  have hyr:=run_yield (P:=E.P) (args:=vs.toArray) hl2 (by rw [hrec];simp [hps x,hvl])
  refine⟨_,_,_,_,hyr,roundIn_of_wpIn trivial ?_⟩
  have hown' :co 0 kH w2 S2 (mi (w.heap.size+1) rec .ready none::Oi i):=hown
  have:=hbody i x r2 hs2' (w.heap.size+1) rec w2 S2 (fun k=> ∃f∈mi (w.heap.size+1) rec .ready none::Oi i,f.fp k)
   {tmps:=(ps.zip vs).foldl (fun t (p:Nat×Value)=>t.setIfInBounds p.1 p.2) a.tmps,defers:=[]} w2 S2
   ⟨dI _ _ _,hs2,gc hown' fun f hf k hk=> .inr ⟨f,hf,hk⟩,sm ps (args x) vs ⟨a.tmps,[]⟩ G (hps x) hvs hpn ⟨st.facts.size,rfl,fun j t h=>t.mono hle (st.facts.at_ j t h)⟩⟩
  rw [hrec]
  rw [hrec]at this
  rw [pU]
  refine wpIn_mono this ?_
  intro e a3 w3 hp
  cases e with
  |normal=>
   obtain⟨w4,hb4,hp4⟩:=hp
   refine⟨w4,hb4,wpIn_mono hp4 ?_⟩
   have hR: ∀en w',Ge ⟨E.P,⟨E.N.n,[]⟩,fun k=> ∃f∈mi (w.heap.size+1) rec .ready none::Oi i,f.fp k,w2,S2,some (w.heap.size+1)⟩ (w.heap.size+1) rec Oi dat jc r2 en w' →
     ∃e' S',en= .returned (.bool r2.1.isNone)∧(∃i',dat i' =r2.2∧e' =ll S (mi (w.heap.size+1) rec (Hz r2.1) (r2.1.map jc)::Oi i'))∧dV (ll S (mi (w.heap.size+1) rec .ready none::Oi i)).fp w2 S2 w' S' ∧eR w' S' ∧e'.p w' S' ∧ ∀k,e'.fp k→(ll S (mi (w.heap.size+1) rec .ready none::Oi i)).fp k∨w2.heap.size≤k:=by
    rintro en w' ⟨i',S',h1,h2,h3,h4,h5⟩
    exact⟨_,S',h1,⟨i',h2,rfl⟩,h3,h4,⟨SH.le_trans hle h3.keep,h5.weak⟩,fun k ⟨f,hf,hk⟩=>((co.mem h5 f hf).2 k hk).symm⟩
   rw [hrec]at hR
   intro e5 a5 w5 hp5
   cases e5<;>simp only [roundPost]at hp5 ⊢
   case normal=>obtain⟨v5,w6,h1,h2⟩:=hp5;exact⟨v5,w6,h1,hR _ _ h2⟩
   case ret=>obtain⟨v5,w6,h1,h2⟩:=hp5;exact⟨v5,w6,h1,hR _ _ h2⟩
   case exit=>obtain⟨v5,w6,h1,h2⟩:=hp5;exact⟨v5,w6,h1,hR _ _ h2⟩
   case goto=>obtain⟨v5,w6,h1,h2⟩:=hp5;exact⟨v5,w6,h1,hR _ _ h2⟩
  |_=>exact hp
 have hrecE:W1.heap[w.heap.size+1]? =some (.loop {rec with state:= .ready,pending:=none}):=by rw [hL1,hrec]
 have he0:(ll S (mi (w.heap.size+1) rec .ready none::Oi i0)).p W1 S:=⟨SH.le_refl _,⟨⟨y3,hrecE⟩,fun _ _=> .inl (iQ _)⟩,fun f hf k hk hfk=>by have:=hlt f hf k hfk;have hk' :k=w.heap.size+1:=hk;omega,hoi1.weak⟩
 have hap0: ∀k,(ll S (mi (w.heap.size+1) rec .ready none::Oi i0)).fp k→ ¬fp k:=by
  rintro k ⟨f,hf,hk⟩ hfk
  rcases fS.1 hf with rfl|hf
  ·have:=hfp k hfk;have hk' :k=w.heap.size+1:=hk;omega
  ·exact hap f hf k hfk hk
 refine(hcall kH W1 S hext (fun _ _ h=>h) y2 _ (wC f) (none,dat i0) R hit _ _ hyld _ ⟨i0,rfl,rfl⟩ he0 hap0).mono ?_
 rintro en w2 ⟨e',S2,j,⟨vr,rfl⟩,⟨i',hi',rfl⟩,hx2,hs2,⟨hle2,hown2⟩,hob,hnew,hapo⟩
 have hl2:=hown2.1.1.2
 have hnb: ∀k,(ve w.heap.size).fp k→ ¬((ll S (mi (w.heap.size+1) rec .ready none::Oi i0)).fp k∨fp k):=by
  rintro k hk h
  have hk' :k=w.heap.size:=hk
  subst hk'
  rcases h with⟨f,hf,hfk⟩|h
  ·rcases fS.1 hf with rfl|hf
   ·have hk' :w.heap.size=w.heap.size+1:=hfk;omega
   ·have:=hlt f hf _ hfk;omega
  ·have:=hfp _ h;omega
 have hBin: ∀k,((ll S (mi (w.heap.size+1) rec .ready none::Oi i0)).fp k∨fp k)→E.w0.heap.size≤k∨E.B k:=by
  rintro k (⟨f,hf,hk⟩|h)
  ·rcases fS.1 hf with rfl|hf
   ·left;have hk' :k=w.heap.size+1:=hk;have:E.w0.heap.size≤w.heap.size:=hbl;omega
   ·exact(co.mem hoi f hf).2 k hk
  ·exact hbase k h
 have hBn: ∀k,((ll S (mi (w.heap.size+1) rec (Hz R.1.1) (R.1.1.map jc)::Oi i')).fp k∨sh (Ob R.2 j) k)→E.base≤k∨E.B k:=fun k hk=>(hnew k hk).elim (hBin k) (fun h=> .inl (by have h1:E.base≤w.heap.size:=hbl;have h2:W1.heap.size≤k:=h;omega))
 have hb2:co E.base E.B w2 S2 (mi (w.heap.size+1) rec (Hz R.1.1) (R.1.1.map jc)::(Ob R.2 j++Oi i')):=by
  obtain⟨q1,q2,q3⟩:=hown2
  refine co.cons ⟨q1.1,fun k hk=>hBn k (.inl ⟨_,oQ ..,hk⟩)⟩ (fun f hf=>?_) (tt (gc hob fun f hf k hk=>hBn k (.inr ⟨f,hf,hk⟩)) (gc q3 fun f hf k hk=>hBn k (.inl ⟨f,oy _ hf,hk⟩)) fun e he f hf k hek hfk=>hapo k ⟨f,oy _ hf,hfk⟩ ⟨e,he,hek⟩)
  rcases zJ.1 hf with hf|hf
  ·exact fun k hk hfk=>hapo k ⟨_,oQ ..,hk⟩ ⟨f,hf,hfk⟩
  ·exact q2 f hf
 have hend:Hz R.1.1≠ .busy:=by unfold Hz;split<;>simp
 obtain⟨z1,z2,z3⟩:=sP (st' := .exhausted) (pd' :=R.1.1.map jc) hb2 hs2
 have hdf:(ve w.heap.size).p W1 S:=⟨x3,hK1⟩
 have JP:(ve w.heap.size).p w2 S2:=(ve w.heap.size).kept hdf hx2 hnb
 have hd3:=(ve w.heap.size).kept JP z1 (fun k hk hkl=>by have h1:k=w.heap.size:=hk;have h2:k=w.heap.size+1:=hkl;omega)
 have stE:St ⟨E.P,⟨E.N.n,qD w.heap.size::E.N.ds⟩,E.B,E.w0,E.S0,E.r⟩ (ve w.heap.size::(Ob R.2 j++Oi i')) G {a with defers:=[qD w.heap.size]++a.defers} (w2.putObj (w.heap.size+1) (.loop {rec with state:= .exhausted,pending:=R.1.1.map jc})) S2:=by
  refine⟨((st.ext.step0 hext).step hx2 hBin).step z1 (fun c hc=>z3.1.2 c hc),z2,?_,?_⟩
  ·refine co.cons ⟨hd3,fun k hk=> .inl (by have h1:k=w.heap.size:=hk;rw [h1];exact hbl)⟩ (fun f hf k hk hfk=>?_) z3.2.2
   have h1:k=w.heap.size:=hk
   have h2:((ll S (mi (w.heap.size+1) rec (Hz R.1.1) (R.1.1.map jc)::Oi i')).fp k∨sh (Ob R.2 j) k):=by
    rcases zJ.1 hf with hf|hf
    ·exact .inr ⟨f,hf,hfk⟩
    ·exact .inl ⟨f,oy _ hf,hfk⟩
   rcases hnew k h2 with h|h
   ·exact hnb k hk h
   ·omega
  ·refine⟨st.facts.size,?_,fun j t hj=>t.mono (SH.le_trans (SH.le_refl S) hle2) (st.facts.at_ j t hj)⟩
   show qD w.heap.size::a.defers=_
   rw [st.facts.defers]
 obtain⟨k1,k2⟩:=k i' j hi' w.heap.size
 refine⟨_,_,run_endLoop hl2 hend,?_⟩
 cases hR1:R.1.1 with
 |none=>
  rw [hR1]at stE
  exact k1 hR1 _ _ S2 stE
 |some q=>
  rw [hR1]at stE
  have:=k2 q hR1 _ _ S2 stE
  show(jc q).wpIn (fw none) 0 E.P Q _ _
  have hE:fw (⟨E.P,⟨E.N.n,qD w.heap.size::E.N.ds⟩,E.B,E.w0,E.S0,E.r⟩:En).r=fw none:=hfw
  rw [hE]at this
  exact this
end

def BO(l:List (Option Nat×Nat)):OI:={h:=fun n=>l.getD n (none,0)}
def cZ(P:Program){A X ρ:Type}(args:A→List Ty)(Ob:X→OI→List OE)(res:ρ→Ty)(f:X→A→Option (ρ×X)):Ty where
 p:=fun S v=> ∀x y R,f x y=some R→ ∃fid fst cap,v= .func (.func fid) fst cap∧ak P fid=true∧ ∀i w S' vs,me S S' →eR w S' →p7 S' (args y) vs→co 0 kH w S' (Ob x i)→
  Calls P fid (fst++vs.toArray++cap) w fun en w' => ∃j v S'',en= .returned v∧(res R.1).p S'' v∧dV (sh (Ob x i)) w S' w' S'' ∧eR w' S'' ∧co 0 kH w' S'' (Ob R.2 j)∧ ∀k,sh (Ob R.2 j) k→sh (Ob x i) k∨w.heap.size≤k
 mono:=fun h k x y R hf=>by
  obtain⟨fid,fst,cap,e,hc,hs⟩:=k x y R hf
  exact⟨fid,fst,cap,e,hc,fun i w S' vs hle=>hs i w S' vs (SH.le_trans h hle)⟩
variable{A ρ:Type}{res:ρ→Ty}
theorem xn{args:A→List Ty}:(cZ P args Ob res (fun _ _=>none)).p S v:=fun _ _ _ h=>by cases h
section
section
variable{ty:TypeId}
theorem fg{args:A→List Ty}{f:X→A→Option (ρ×X)}{fid:FuncId}{p:Operand}(hc:ak E.P fid=true)(hp:aL E.N G p (tV (aE b 0)))(hs: ∀x y R,f x y=some R→ ∀i,cA E.P fid (tV (aE b 0)::args y) (Ob x i) (fun _:OI=>res R.1) (fun j=>Ob R.2 j)):
  bN E O G ⟨dst,.makeFunc (.func fid) #[p] #[],ty,pos,after,g⟩ (cZ E.P args Ob res f):= .of_pure fun a w S _ _ hf=>by
 have h1:a.eval p=aE b 0:=hp S a hf
 refine⟨.func (.func fid) #[aE b 0] #[],by simp [execOp,Instr.makeFunc,h1],fun x y R hR=>⟨fid,#[aE b 0],#[],rfl,hc,fun i w' S' vs _ hsat hv ho=>?_⟩⟩
 have:=hs x y R hR i w' S' (aE b 0::vs) hsat ⟨rfl,hv⟩ ho
 rw [show(#[aE b 0]++vs.toArray++ #[]:Array Value)=(aE b 0::vs).toArray from by simp]
 exact this
end
theorem te{args:A→List Ty}{f:X→A→Option (ρ×X)}{x:X}{y:A}{R:ρ×X}{i:OI}{ty:TypeId}{fo:Operand}{xs:List Operand}(Or:List OE)(hO:O=Ob x i++Or)(hf:aL E.N G fo (cZ E.P args Ob res f))(hR:f x y=some R)(hx:fz E.N G xs (args y))(hpost: ∀j,Ob R.2 j++Or=post j):
  EffOK E O G ⟨some d,.call ⟨.value fo,xs.toArray,ats⟩,ty,pos,after,g⟩ post (fun _=>res R.1):=fun a w S hsat ho hF hb=>by
 subst hO
 obtain rfl:(fun j=>Ob R.2 j++Or)=post:=funext hpost
 obtain⟨fid,fst,cap,e,hc,hs⟩:=hf S a hF x y R hR
 have hr:(execOp a.eval ⟨some d,.call ⟨.value fo,xs.toArray,ats⟩,ty,pos,after,g⟩).run E.P w= .ok (.enter fid (fst++(xs.map a.eval).toArray++cap)) w:=by
  simp [execOp,resolve,e,Deferred.ofValue,invoke,dO hc]
 refine⟨fun c h=>(by cases h),?_⟩
 rw [hr]
 exact(hs i w S _ (SH.le_refl _) hsat (hx.tys hF) (iP ho).1.weak).mono fun en w' ⟨j,v,S',he,hv,h1,h2,h3,h4⟩=>⟨_,he,v,S',j,rfl,h1.more fun b ⟨f,hf,hb⟩=>⟨f,Di _ hf,hb⟩,h2,co.turn ho hb h1 h3 h4,hv⟩
theorem hX{t:Ty}{Ob:OI→List OE}{i:OI}(h:cA P f ts O1 (fun _:OI=>t) (fun _=>Ob i)):cA P f ts O1 (fun _:OI=>t) Ob:=fun w S vs hs hv ho=>
 (h w S vs hs hv ho).mono fun _ _ ⟨_,v,S',h1,h2,h3,h4,h5,h6⟩=>⟨i,v,S',h1,h2,h3,h4,h5,h6⟩
section
variable{t:ι→Ty}{O2:ι→List OE}
theorem fP{rvs:List ResultVar}(hr:fn.results=rvs.toArray)(h1:Nat.beq rvs.length 1=false)(h:Eb P ⟨N,[]⟩ G rvs ts)(i:ι)(hO:O=O2 i)(ht:t i=tT ts):
  AT ⟨P,⟨N,[]⟩,sh O1,w0,S0,none⟩ (bodyPost P fn (Fz ⟨P,⟨N,[]⟩,sh O1,w0,S0,none⟩ O1 t O2)) .ret O G:=fun a w S st=>by
 obtain⟨vs,k1,k2,k3⟩:=h.run st.sat st.facts
 have hne: ¬vs.length=1:=by rw [k3];intro e;rw [e]at h1;cases h1
 refine⟨st.facts.defers,.tuple vs.toArray,?_,zp st rfl i hO (by rw [ht];exact⟨vs,rfl,k2⟩)⟩
 have e1:(fn.results.mapM (sd a.tmps)).run P w= .ok vs.toArray w:=by
  rw [hr,List.mapM_toArray,Sem.run_map,k1]
  rfl
 have e3:results fn a.tmps=((fn.results.mapM (sd a.tmps))>>=fun vs=>pure (if h:vs.size=1 then vs[0]else .tuple vs)):=rfl
 rw [e3,mS,e1]
 simp [Result.andThen,hne]
theorem eu{x:α}(hr:fn.results= #[.cell k T])(ti:TI P T sz bytes agg z)(hsz:r.sz=sz)(hag:r.agg=agg)(hk:look G k=some (bl r x))(i:ι)(hO:O=O2 i)(ht:t i=tD r x):
  AT ⟨P,⟨N,[]⟩,sh O1,w0,S0,none⟩ (bodyPost P fn (Fz ⟨P,⟨N,[]⟩,sh O1,w0,S0,none⟩ O1 t O2)) .ret O G:=fun a w S st=>by
 obtain⟨b,off,c,U,fr,h1,h2,h3⟩:=st.facts.at_ k _ hk
 obtain⟨c',h4,h5⟩:=st.sat.part h2 (r.len h3)
 rw [←h5]at h3
 refine⟨st.facts.defers,r.val ((c'.toList.drop off).take r.sz),?_,zp st rfl i hO (by rw [ht];exact⟨_,rfl,h3⟩)⟩
 have hl:=fI ti h4 hsz hag h3
 have h1' :a.tmps[k]?.getD undef=Value.pointer (some ⟨b,off,none⟩):=by simpa [yy] using h1
 simp [results,hr,h1',asAddr,hl]
end
def L0(u:Value)(t:Ty):Ty where
 p:=fun S v=>v=u∧t.p S u
 mono:=fun h ⟨e,k⟩=>⟨e,t.mono h k⟩
theorem St.settleP{x:α}(h:St E (bx r T b x::O) G a w S)(hk:look G k=some (tV (aE b 0))): ∃S',St E O ((k,L0 (aE b 0) (bl r x))::G) a w S' :=by
 obtain⟨S',h1⟩:=h.settleB hk
 have hv:a.tmps.getD k undef=aE b 0:=h.facts.at_ k _ hk
 refine⟨S',⟨h1.ext,h1.sat,h1.own,⟨h1.facts.size,h1.facts.defers,fun j t hj=>?_⟩⟩⟩
 have hp:(bl r x).p S' (a.tmps.getD k undef):=h1.facts.at_ k _ (by simp [look])
 by_cases hb:Nat.beq k j=true
 ·have e:=rM hb
  subst e
  simp only [look,Nat.beq_refl,cond_true,zO]at hj
  subst hj
  exact⟨hv,by rw [←hv];exact hp⟩
 ·rw [rO]at hb
  have:look ((k,bl r x)::G) j=some t:=by
   simp only [look,hb,cond_false]at hj ⊢;exact hj
  exact h1.facts.at_ j t this
theorem su{x:α}(k:Nat)(hk:look G k=some (tV (aE b 0)))(h:AT E Q e O ((k,L0 (aE b 0) (bl r x))::G)):AT E Q e (bx r T b x::O) G:=
 fun a w _ st=>let⟨S',st'⟩:=st.settleP hk;h a w S' st'
theorem Hq{hs:HL}{x:α}(h:co base B w S (bx (rH r hs) T b x::O)):co base B w S (bx r T b x::O):=by
 obtain⟨⟨⟨h1,c,h2,h3⟩,h4⟩,h5,h6⟩:=h
 exact⟨⟨⟨h1,c,h2,h3.1⟩,h4⟩,h5,h6⟩
theorem ux{hs:HL}{x:α}(h:AT E Q e (bx r T b x::O) G):AT E Q e (bx (rH r hs) T b x::O) G:=fun a w S st=>h a w S (st.own_map Hq)
theorem tU{N:Fr}{G:gW}{j:Nat}{t:Ty}(ti:TI P T 1 bytes false z)(hk:look G k=some (bl rV u))(hj:look G j=some (L0 u t)):C2 P N G (.cell k T) t:=fun a w S hs hf=>by
 obtain⟨v,h1,h2⟩:=d7 (r:=rV) ti rfl rfl hk a w S hs hf
 have h3:=(oZ.1 h2).1
 subst h3
 obtain⟨_,h4⟩:=hf.at_ j _ hj
 exact⟨v,h1,h4⟩
end
section
variable [DecidableEq κ]{k:κ}{i v:Operand}{dst:Option Nat}{ty:TypeId}
theorem gV(hm:E.P.underlying t=some (.map kt et))(hk:A2 E.P kt kv)(hx:aL E.N G x (tV (nB b)))(hi:Da E.N G i (kv k))(hv:aL E.N G v (γ y))(h: ∀os',RG E ops Q rest (lE (vc γ) kv b none os' (eK m k y)::O) G):
  RG E ops Q (⟨none,.insert t x i v,ty,pos,after,none⟩::rest) (lE (vc γ) kv b none os m::O) G:= .of rfl fun a w S st=>by
 have h1:a.eval x=nB b:=hx S a st.facts
 have h2:a.eval i=kv k:=hi S a st.facts
 have h3:(γ y).p S (a.eval v):=hv S a st.facts
 obtain⟨⟨hp,hfp⟩,hap,hO⟩:=st.own
 obtain⟨hno,hnb,es,clock,e3,e4,hst⟩:=hp
 obtain⟨q,hq,hdk,hinj⟩:=hk
 obtain⟨os1,p1,p2,_⟩:=pJ hdk hinj (k:=k) 0 e4
 have hnb1: ∀o∈os1,o.1≠some b:=fun o ho=>by
  rcases p1 o ho with h|h
  ·exact hnb o h
  ·rw [h];exact fun e=>by cases e
 obtain⟨w',os',r,x1,x2,x3,x4⟩:=DP (V:=vc γ) (E:=E) (y:=y) (o:=(none,0)) (val:=a.eval v) st.sat hm ⟨q,hq,hdk,hinj⟩ ⟨hno,hnb1,es,clock,e3,p2,hst⟩ ⟨rfl,h3⟩ (fun e=>by cases e) (fun _ _ _ e=>by cases e)
 have hrun:(execOp a.eval ⟨none,.insert t x i v,ty,pos,after,none⟩).run E.P w= .ok .skip w' :=by simp [execOp,h1,h2,r]
 refine⟨fun c h=>(by cases h),?_⟩
 rw [hrun]
 have hfp' : ∀j,(lE (vc γ) kv b none os' (eK m k y)).fp j→(lE (vc γ) kv b none os m).fp j:=fun j hj=>by
  rcases x4 j hj with(h|⟨o,ho,e⟩)|e
  ·exact .inl h
  ·rcases p1 o ho with h|h
   ·exact .inr ⟨o,h,e⟩
   ·rw [h]at e;cases e
  ·cases e
 exact h os' _ _ S ⟨st.ext.step x1 (fun c hc=>hfp c (.inl hc)),x2,⟨⟨x3,fun j hj=>hfp j (hfp' j hj)⟩,fun f hf j hj=>hap f hf j (hfp' j hj),hO.ext x1 fun f hf j hj hjb=>hap f hf j (.inl hjb) hj⟩,st.facts⟩
end
def Mb(b:Bool):Option Unit:=if b then some ()else none
theorem E7{b:Bool}{u:Unit}(h:Mb b=some u):b=true:=by
 unfold Mb at h
 split at h
 ·assumption
 ·cases h

section
variable [DecidableEq κ]{k:κ}{i:Operand}{dst:Option Nat}{ty:TypeId}
end

def GS:Nat:=1000000
def L8{α:Type}(r:Rp α)(x:α)(g:Nat):Ty where
 p:=fun S _=>(bl r x).p S (aE g 0)
 mono:=fun h k=>(bl r x).mono h k
theorem IE{x:α}{g:Nat}{vs:List Value}(hs:eR w S)(hg:(g,vs)∈glob)(hr: ∀S,r.rc S vs x):(bl r x).p S (aE g 0):=by
 obtain⟨c,T,fr,h1,h2⟩:=hs.gl _ hg
 refine⟨g,0,c,T,fr,rfl,h1,?_⟩
 rw [Ba,←r.len (hr S)]
 have h3:c.toList.take vs.length=vs:=h2
 rw [h3]
 exact hr S
section
variable{ty:TypeId}
theorem Fh{N:Fr}{t:Ty}(hf:cN N S a G)(h: ∀v,t.p S v):cN N S a ((GS,t)::G):=⟨hf.size,hf.defers,fun j u hj=>by
 unfold look at hj
 cases hb:Nat.beq GS j with
 |true=>
  rw [hb]at hj
  simp only [cond_true,zO]at hj
  rw [←hj];exact h _
 |false=>
  rw [hb]at hj
  simp only [cond_false]at hj
  exact hf.at_ j u hj⟩
theorem ye{x:α}{v:Nat}{vs:List Value}{t:Ty}(hg:(v,vs)∈glob)(hr: ∀S,r.rc S vs x)(h:bN E O ((GS,L8 r x v)::G) o t):bN E O G o t:=fun a w S hs ho hf=>
 h a w S hs ho (Fh hf fun _=>IE hs hg hr)
theorem HD{N:Fr}{x:α}{v:Nat}:aL N ((GS,L8 r x v)::G) (.global v) (bl r x):=fun S a hf=>hf.at_ GS (L8 r x v) (by simp [look])
def IB(s:jy)(i:Int):Option Int:=(eh s i).map fun b=>(b.toNat:Int)
theorem DM{ix:Operand}{k:IntKind}{i y:Int}(ht:E.P.underlying t=some .string)(hx:aL E.N G x (tD rS s))(hi:aL E.N G ix (tD (rI k) i))(hy:IB s i=some y):
  bN E O G ⟨dst,.index t x ix,ty,pos,after,g⟩ (tD (rI .u8) y):= .of_pure fun a w S _ _ hf=>by
 have h1:a.eval x= .string ⟨s.toArray⟩:=qa.1 (hx S a hf)
 have h2:a.eval ix= .int k i:=dd.1 (hi S a hf)
 unfold IB at hy
 cases hb:eh s i with
 |none=>rw [hb]at hy;cases hy
 |some b=>
  rw [hb]at hy
  obtain⟨g1,g2⟩:=hM hb
  have hlt:i.toNat<s.length:=(mC.1 g2).1
  have e:y=(b.toNat:Int):=by simpa using hy.symm
  have hsz:(ByteArray.mk s.toArray).size=s.length:=by simp [ByteArray.size]
  refine⟨.int .u8 y,?_,dd.2 rfl⟩
  have h3:=run_index_string (P:=E.P) w t ⟨s.toArray⟩ k i ht
  rw [dif_pos (by rw [hsz];omega)]at h3
  have h4:(ByteArray.mk s.toArray)[i.toNat]'(by rw [hsz];exact hlt)=b:=by
   have:=(mC.1 g2).2
   show s.toArray[i.toNat]=b
   simpa using this
  simp only [execOp,h1,h2,mS,h3,oa,Sem.run_pure]
  rw [h4,e]
end
open Go.MapKept (Stamped)
section
variable [DecidableEq κ]
def tNx(b:Bool):Ty where
 p:=fun _ v=> ∃vs:List Value,v= .tuple (.mk (.bool b::vs))
 mono:=fun _ h=>h
end
section
variable [DecidableEq κ]{r:Nat}{left:List κ}{cur:Option κ}{k:κ}{i v:Operand}{dst:Option Nat}{ty:TypeId}
theorem y4{f:Bool}(hx:aL E.N G x (tNx f)):bN E O G ⟨dst,.extract x 0,ty,pos,after,g⟩ (tD rB f):=
 .of_pure fun a w S _ _ hf=>by
  obtain⟨vs,h1⟩:=hx S a hf
  exact⟨.bool f,by simp [execOp,h1,Instr.extract],fj.2 rfl⟩
end
open Go.RowKit

theorem D2(hs:eR w S)(h:Below w.heap.size w w')(hd:w.drawn≤w'.drawn):dV kH w S w' S∧eR w' S:=
 ⟨⟨h.os,h.tape,h.output,hd,h.size,fun k hk _=>h.block k hk,SH.le_refl _,fun _ _ _=>rfl⟩,hs.same fun b o hb=>h.block b (hs.lt hb)⟩
theorem AR{t:jy}(h: ∀w:World,Dv w→Calls P f #[.string ⟨s.toArray⟩] w fun e w' =>e= .returned (.string ⟨t.toArray⟩)∧Below w.heap.size w w'):bo P f [tD rS s] (tD rS t):=fun w S vs hs hv=>by
 match vs,hv with
 |[v],⟨h1,_⟩=>
  obtain rfl:=qa.1 h1
  refine(AO (h w hs.tab) (fun w' hr=>by cases hr.1)).mono fun e w' ⟨⟨he,hb⟩,hd⟩=>?_
  obtain⟨k1,k2⟩:=D2 hs hb hd
  exact⟨_,S,he,k1,k2,qa.2 rfl⟩

section
variable{ty:TypeId}
theorem DH{e:TypeId}(ha:E.P.underlying t=some (.array n e))(ti:TI E.P e sz bytes agg z)(hn:Nat.ble n maxLen=true)(hx:aL E.N G x (bl (oF r n) xs)):bN E O G ⟨dst,.slice t x none none none,ty,pos,after,g⟩ (tD (dG r) xs):= .of_pure fun a w S _ _ hf=>by
 obtain⟨b,off,c,T,fr,h1,h2,h3,h4⟩:=hx S a hf
 have hz:(⟨b,off,none⟩:Addr).add 0=⟨b,off,none⟩:=by rw [eQ,Nat.add_zero]
 refine⟨.slice (some ⟨b,off,none⟩) n n,?_,jC.2 ⟨_,_,by rw [h3],by omega,kD hn,.inr ⟨b,off,c,T,fr,rfl,h2,by rw [h3];exact h4⟩⟩⟩
 by_cases h0:n=0
 ·subst h0
  simp [execOp,h1,Instr.sliceAt,gO ha,ti.sizeOf,Instr.sliceBounds,Instr.sureAddr]
 ·simp [execOp,h1,Instr.sliceAt,gO ha,ti.sizeOf,Instr.sliceBounds,Instr.sureAddr,h0,hz]
theorem xH{y:α}{ix:Operand}{e:TypeId}{k:IntKind}{i:Int}(ht:E.P.underlying t=some (.array n e))(ti:TI E.P e sz bytes agg z)(hsz:r.sz=sz)(hag:r.agg=agg)(hx:aL E.N G x (tD (oF r n) xs))(hi:aL E.N G ix (tD (rI k) i))(hy:eh xs i=some y):bN E O G ⟨dst,.index t x ix,ty,pos,after,g⟩ (tD r y):= .of_pure fun a w S _ _ hf=>by
 obtain⟨cs,h1,h2,h3⟩:=hx S a hf
 have h1' :a.eval x= .agg cs.toArray:=h1
 have h4:a.eval ix= .int k i:=dd.1 (hi S a hf)
 obtain⟨g1,g2⟩:=hM hy
 have hlt:i.toNat<xs.length:=(mC.1 g2).1
 have hg:=vn h3 g2
 have hin:0≤i∧i<(n:Int):=⟨g1,by omega⟩
 refine⟨r.val ((cs.drop (i.toNat*r.sz)).take r.sz),?_,_,rfl,hg⟩
 have hp:(part e cs.toArray (i.toNat*sz)).run E.P w= .ok (r.val ((cs.drop (i.toNat*r.sz)).take r.sz)) w:=by
  subst hsz
  subst hag
  have hl:=r.len hg
  unfold part
  simp only [mS,ti.isAgg,oa]
  cases hA:r.agg with
  |true=>
   simp [ti.sizeOf,Rp.val,hA]
  |false=>
   have h1:=r.sc hA
   rw [h1,Nat.mul_one]at hl ⊢
   cases hd:cs.drop i.toNat with
   |nil=>rw [hd]at hl;simp at hl
   |cons v l=>
    have hv:cs[i.toNat]? =some v:=by
     have:=u4 (xs:=cs) (i:=i.toNat) (j:=0)
     rw [hd]at this
     simpa using this.symm
    simp [Rp.val,hA,hv]
 simp [execOp,h1',h4,Instr.index,asIntOf,gO ht,hin,ti.sizeOf,hp]

def oI(s:jy)(i:Nat):Nat×Nat:=Utf8.decode ⟨s.toArray⟩ i
def o8(s:jy):Nat→Nat→List (Int×Int)
 |0,_=>[]
 |f+1,i=>if i<s.length then((i:Int),((oI s i).1:Int))::o8 s f (i+(oI s i).2)else []
def EO(s:jy):List (Int×Int):=o8 s (s.length+1) 0
theorem Hp(s:jy)(i:Nat):1≤(oI s i).2:=by
 unfold oI Utf8.decode
 simp only []
 repeat' split
 all_goals simp
def wY(r:Nat)(s:jy)(left:List (Int×Int)):OE where
 fp:=fun j=>j=r
 p:=fun w S=>S r=none∧ ∃pos f,w.heap[r]? =some (.stringIter ⟨s.toArray⟩ pos)∧left=o8 s f pos∧s.length<pos+f
 here:=by
  rintro w S ⟨_,pos,f,h,_⟩ j rfl
  exact(oc.1 h).1
 kept:=by
  rintro C w w' S S' ⟨h0,pos,f,h,h2⟩ k hC
  have hlt:=(oc.1 h).1
  exact⟨by rw [k.old r hlt (hC r rfl)];exact h0,pos,f,by rw [k.heap r hlt (hC r rfl)];exact h,h2⟩
theorem AU(ht:E.P.underlying t=some .string)(hx:aL E.N G x (tD rS s))(hd:Nat.blt d E.N.n=true)(k: ∀r,RG E ops Q rest (wY r s (EO s)::O) ((d,tV (aE r 0))::G)):RG E ops Q (⟨some d,.range t x,ty,pos,after,none⟩::rest) O G:= .of rfl fun a w S st=>by
 have hv:a.eval x= .string ⟨s.toArray⟩:=qa.1 (hx S a st.facts)
 have hrun:(execOp a.eval ⟨some d,.range t x,ty,pos,after,none⟩).run E.P w= .ok (.value (aE w.heap.size 0)) (w.alloc (.stringIter ⟨s.toArray⟩ 0)):=by
  simp [execOp,hv,Instr.range,gO ht,aE]
 refine⟨fun c h=>(by cases h),?_⟩
 rw [hrun]
 obtain⟨he,hs',hno⟩:=dv (w:=w) (.stringIter ⟨s.toArray⟩ 0) st.sat
 exact k w.heap.size _ _ S ⟨st.ext.step0 he,hs',kX st.own he ⟨hno,0,s.length+1,vA w _,rfl,by omega⟩ (fun b hb=>by rw [show b=_ from hb];exact fG _) st.base_le,st.facts.put hd rfl⟩
theorem Ck{r:Nat}{left:List (Int×Int)}(hx:aL E.N G x (tV (aE r 0)))(hd:Nat.blt d E.N.n=true)(h0:left=[]→RG E ops Q rest (wY r s []::O) ((d,tNx false)::G))(h1: ∀e l,left=e::l→RG E ops Q rest (wY r s l::O) ((d,tT [tD rB true,tD (rI .i64) e.1,tD (rI .i32) e.2])::G)):
  RG E ops Q (⟨some d,.next x true,ty,pos,after,none⟩::rest) (wY r s left::O) G:= .of rfl fun a w S st=>by
 obtain⟨⟨⟨hno,ps,f,hb,hl,hf⟩,hfp⟩,hap,hO⟩:=st.own
 have hv:a.eval x=aE r 0:=hx S a st.facts
 have hsz:(ByteArray.mk s.toArray).size=s.length:=by simp [ByteArray.size]
 have hg:(getObj r).run E.P w= .ok (.stringIter ⟨s.toArray⟩ ps) w:=by
  simp [getObj,Sem.run,hb]
 by_cases hp:ps<s.length
 ·obtain⟨f,rfl⟩: ∃f',f=f' +1:=⟨f-1,by omega⟩
  have hl2:left=((ps:Int),((oI s ps).1:Int))::o8 s f (ps+(oI s ps).2):=by rw [hl,o8,cO hp]
  have hset:(setObj r (.stringIter ⟨s.toArray⟩ (ps+(oI s ps).2))).run E.P w= .ok () {w with heap:=w.heap.setIfInBounds r (.stringIter ⟨s.toArray⟩ (ps+(oI s ps).2))}:=by
   simp [setObj,Sem.run,hb]
  have hrun:(execOp a.eval ⟨some d,.next x true,ty,pos,after,none⟩).run E.P w= .ok (.value (.tuple #[.bool true,.int .i64 ps,.int .i32 (oI s ps).1])) {w with heap:=w.heap.setIfInBounds r (.stringIter ⟨s.toArray⟩ (ps+(oI s ps).2))}:=by
   have h3:(Instr.next (aE r 0) true ty).run E.P w= .ok (.tuple #[.bool true,.int .i64 ps,.int .i32 (oI s ps).1]) {w with heap:=w.heap.setIfInBounds r (.stringIter ⟨s.toArray⟩ (ps+(oI s ps).2))}:=by
    unfold Instr.next aE
    simp only [mS,hg,oa,hsz,hp,if_true]
    rw [show Utf8.decode ⟨s.toArray⟩ ps=oI s ps from rfl]
    simp only [mS,hset,oa]
    rfl
   simp [execOp,hv,h3]
  refine⟨fun c h=>(by cases h),?_⟩
  rw [hrun]
  have hblt:=(oc.1 hb).1
  have hx' :dV (fun k=> ∃f∈[wY r s left],f.fp k) w S {w with heap:=w.heap.setIfInBounds r (.stringIter ⟨s.toArray⟩ (ps+(oI s ps).2))} S:=
   ⟨rfl,rfl,rfl,fG _,by simp,fun k _ hk=>by
    have:r≠k:=fun e=>hk ⟨_,List.mem_singleton_self _,e.symm⟩
    simp [this],SH.le_refl _,fun _ _ _=>rfl⟩
  have hs' :eR {w with heap:=w.heap.setIfInBounds r (.stringIter ⟨s.toArray⟩ (ps+(oI s ps).2))} S:=st.sat.same fun k o hk=>by
   have:r≠k:=fun e=>by subst e;rw [hno]at hk;cases hk
   simp [this]
  have hnew:(wY r s (o8 s f (ps+(oI s ps).2))).p {w with heap:=w.heap.setIfInBounds r (.stringIter ⟨s.toArray⟩ (ps+(oI s ps).2))} S:=
   ⟨hno,_,f,by simp [hblt],rfl,by have:=Hp s ps;omega⟩
  refine h1 _ _ hl2 _ _ S ((st.turn (O1:=[wY r s left]) (O2:=[wY r s (o8 s f (ps+(oI s ps).2))]) hx' hs' ⟨⟨hnew,fun k hk=> .inl (iQ _)⟩,fun _ h=>(by cases h),trivial⟩ (fun k ⟨g,hg,hk⟩=>?_)).put hd ?_)
  ·have:g=wY r s (o8 s f (ps+(oI s ps).2)):=by simpa using hg
   subst this
   exact .inl ⟨_,List.mem_singleton_self _,hk⟩
  ·exact⟨[.bool true,.int .i64 ps,.int .i32 (oI s ps).1],rfl,fj.2 rfl,dd.2 rfl,dd.2 rfl,trivial⟩
 ·have hl2:left=[]:=by
   rw [hl]
   cases f with
   |zero=>rfl
   |succ f=>rw [o8,cQ hp]
  have hrun:(execOp a.eval ⟨some d,.next x true,ty,pos,after,none⟩).run E.P w= .ok (.value (.tuple #[.bool false])) w:=by
   have h3:(Instr.next (aE r 0) true ty).run E.P w= .ok (.tuple #[.bool false]) w:=by
    unfold Instr.next aE
    simp only [mS,hg,oa,hsz,hp,sv]
    rfl
   simp [execOp,hv,h3]
  refine⟨fun c h=>(by cases h),?_⟩
  rw [hrun]
  subst hl2
  exact h0 rfl _ _ S (st.put hd ⟨[],rfl⟩)
theorem rD{t:Ty}{u:List Ty}{i:Nat}(hu:u[i]? =some t)(hx:aL E.N G x (tT u)):bN E O G ⟨dst,.extract x i,ty,pos,after,g⟩ t:=wg hu hx
theorem JK{Z:List β→Prop}{Of:List β→List OE}{Gf:gW}(h: ∀l,Z l→(∀l2,l2.length<l.length→Z l2→LG E Q c (Of l2) Gf)→LG E Q c (Of l) Gf)(l:List β)(hz:Z l):LG E Q c (Of l) Gf:=by
 have key: ∀(n:Nat) (l:List β),l.length≤n→Z l→LG E Q c (Of l) Gf:=by
  intro n
  induction n with
  |zero=>intro l hn hz;exact h l hz fun l2 h2 _=>absurd h2 (by omega)
  |succ n ih=>intro l hn hz;exact h l hz fun l2 h2 hz2=>ih l2 (by omega) hz2
 exact key l.length l (fG _) hz
end

abbrev NG:=Nat→(Option Nat×Nat)×(Nat→Option Nat×Nat)
inductive NPl where
 |o
 |i (k:Nat)
 |l (k j:Nat)
section
def JP(q:Nat→Option Nat×Nat)(zs:List (List α)):List Value:=zs.mapIdx fun j z=>aC (q j).1 (q j).2 z.length
def hd1(prj:β→List (List α))(g:NG)(x:List β):List Value:=x.mapIdx fun k y=>aC (g k).1.1 (g k).1.2 (prj y).length
def nsB(prj:β→List (List α))(l:Option Nat)(g:NG)(x:List β)(h:Option (Nat×Nat)):NPl→Option Nat
 | .o=>l
 | .i k=>(x[k]?).bind fun _=>(g k).1.1
 | .l k j=>if h=some (k,j)then none else((x[k]?).bind fun y=>(prj y)[j]?).bind fun _=>((g k).2 j).1
structure nstP(prj:β→List (List α))(r:Rp α)(T1 T2 T3:TypeId)(l:Option Nat)(cap n:Nat)(g:NG)(x:List β)(h:Option (Nat×Nat))(w:World)(S:SH):Prop where
 len:x.length=n
 out:vi false rV T1 l cap (hd1 prj g x) w S
 inn: ∀k y,x[k]? =some y→vi false rV T2 (g k).1.1 (g k).1.2 (JP (g k).2 (prj y)) w S
 lvs: ∀k y j z,x[k]? =some y→(prj y)[j]? =some z→h≠some (k,j)→vi true r T3 ((g k).2 j).1 ((g k).2 j).2 z w S
 inj: ∀s t b,nsB prj l g x h s=some b→nsB prj l g x h t=some b→s=t
variable{prj:β→List (List α)}{T1 T2 T3:TypeId}{l:Option Nat}{g:NG}{x:List β}{h:Option (Nat×Nat)}
end
section
variable{prj:β→List (List α)}{T1 T2 T3:TypeId}{l:Option Nat}{g:NG}{x:List β}{h:Option (Nat×Nat)}
variable{ty:TypeId}{gd:Option (Nat×Bool)}
open Classical in
noncomputable def LS(w:World)(S:SH)(P:Nat→Prop):SH:=fun b=>if P b then w.heap[b]? else S b
def g0(hs:List (Option Nat×Nat)):NG:=fun k=>(hs.getD k (none,0),fun _=>(none,0))
def tsB(l:Option Nat)(q:Nat→Option Nat×Nat)(zs:List (List α))(h:Option Nat):Option Nat→Option Nat
 |none=>l
 |some j=>if h=some j then none else(zs[j]?).bind fun _=>(q j).1
structure rowP(r:Rp α)(T2 T3:TypeId)(l:Option Nat)(cap n:Nat)(q:Nat→Option Nat×Nat)(zs:List (List α))(h:Option Nat)(w:World)(S:SH):Prop where
 len:zs.length=n
 inn:vi false rV T2 l cap (JP q zs) w S
 lvs: ∀j z,zs[j]? =some z→h≠some j→vi true r T3 (q j).1 (q j).2 z w S
 inj: ∀s t b,tsB l q zs h s=some b→tsB l q zs h t=some b→s=t
variable{q:Nat→Option Nat×Nat}{zs:List (List α)}{k:Option Nat}
end
end Go.Proofs.YtnmjbolollcokaaGreatDoor

