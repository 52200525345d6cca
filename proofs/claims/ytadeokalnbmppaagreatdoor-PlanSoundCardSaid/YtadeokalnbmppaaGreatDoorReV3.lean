import Derived.Test.YtadeokalnbmppaaGreatDoorReV2
import Derived.MapKept
import Derived.Scope
import Derived.ChangeKeysEq
import Derived.Lib.Bytealg
import Derived.Maps.Range
import Derived.Laws.IdiomRangeMap
import Derived.Test.YtadeokalnbmppaaGreatDoorReV1
import Derived.Laws.BytesString
import Derived.Below
set_option linter.all false
namespace Go.Proofs.YtadeokalnbmppaaGreatDoor
open Go
variable{β α:Type}{b:Nat}{c:Code}{d:Nat}{e:Exit}{k:Nat}{r:Rp α}{x:Operand}{y:β}
def og3 [Inhabited α]{c b:Bool}{x:Option α}{k:α->Option β}{d:Option β}{r:β}(h:c=true->(if b=true then x.bind k else d)=some r): ∃y,((c&&b)=true->x=some y/\k y=some r)/\(c=true->b=false->d=some r):=by
 cases c with
 |false=>exact⟨default,fun e=>(by cases e),fun e=>(by cases e)⟩
 |true=>
  obtain⟨y,D,V⟩:=og (h rfl);exact⟨y,fun e=>D e,fun _ e=>V e⟩
def jC{κ β:Type} [DecidableEq κ]:List (κ×β)->κ->Option β
 |[],_=>none
 |p::m,k=>if p.1=k then some p.2 else jC m k
def dC{κ β:Type} [DecidableEq κ]:List (κ×β)->κ->β->List (κ×β)
 |[],k,v=>[(k,v)]
 |p::m,k,v=>if p.1=k then(k,v)::m else p::dC m k v
def FP{κ:Type}(P:Program)(kt:TypeId)(kv:κ->Value):Prop:= ∃d,P.underlying kt=some d/\(∀a,MapKept.IsKey d (kv a))/\ ∀a b,kv a=kv b->a=b
def kvI(k:IntKind)(n:Int):Value:= .int k n
variable{P:Program}{a:Act}{kt:TypeId}
def dV{k:IntKind}(h:P.underlying kt=some (.int k)):FP P kt (kvI k):=⟨_,h,fun _=>rfl,fun a b e=>by injection e⟩
structure MV(β:Type) where
 p:World->SH->β->Option Nat×Nat->Value->Prop
 here: ∀{w S y o v},p w S y o v-> ∀j,o.1=some j->j<w.heap.size
 kept: ∀{C w w' S S' y o v},p w S y o v->ji C w S w' S' ->(∀j,o.1=some j-> ¬C j)->p w' S' y o v
def CL{β:Type}(ty:β->Ty):MV β where
 p:=fun _ S y o v=>o.1=none/\(ty y).p S v
 here:=fun h j hj=>by rw [h.1]at hj;cases hj
 kept:=fun h k _=>⟨h.1,(ty _).mono k.keep h.2⟩
variable{A X:Type}{S S' :SH}{h2:MV β}{ρ:Type}{f:X->A->Option (ρ×X)}{j:Nat}{κ:Type}{kv:κ->Value}{m:List (κ×β)}{o:Oper}{os:List (Option Nat×Nat)}{q:Rp β}{v:Value}{w w' :World}{xs:List α}
section
variable [DecidableEq κ]{d:TypeDesc}{k:κ}
def yq(h2:MV β)(kv:κ->Value)(w:World)(S:SH)(h:Option κ):List MapEntry->List (Option Nat×Nat)->List (κ×β)->Prop
 |[],[],[]=>True
 |e::es,o::os,q::m=>e.key=kv q.1/\(if h=some q.1 then o.1=none else h2.p w S q.2 o e.val)/\(∀o' ∈os,∀j,o.1=some j->o'.1≠some j)/\(∀p∈m,p.1≠q.1)/\yq h2 kv w S h es os m
 |_,_,_=>False
def Bj{h:Option κ}: ∀{es:List MapEntry} {os:List (Option Nat×Nat)} {m:List (κ×β)},yq h2 kv w S h es os m-> ∀o∈os,∀j,o.1=some j->j<w.heap.size
 |[],[],[],_,o,ho,_,_=>by cases ho
 |e::es,o::os,q::m,⟨_,V,_,_,h5⟩,o',ho,j,hj=>by
  rcases iI.1 ho with rfl|ho
  ·split at V
   ·rw [V]at hj;cases hj
   ·exact h2.here V j hj
  ·exact Bj h5 o' ho j hj
def wM{C:Nat->Prop}(k:ji C w S w' S'){h:Option κ}: ∀{es:List MapEntry} {os:List (Option Nat×Nat)} {m:List (κ×β)},yq h2 kv w S h es os m->(∀o∈os,∀j,o.1=some j-> ¬C j)->yq h2 kv w' S' h es os m
 |[],[],[],_,_=>trivial
 |e::es,o::os,q::m,⟨D,V,Z,h4,h5⟩,hC=>⟨D,by
  split
  ·rename_i hh;rw [bq hh]at V;exact V
  ·rename_i hh;rw [aZ hh]at V;exact h2.kept V k (hC o (pz ..)),Z,h4,wM k h5 fun o' ho=>hC o' (pA _ ho)⟩
def FG{h:Option κ}: ∀{es:List MapEntry} {os:List (Option Nat×Nat)} {m:List (κ×β)},yq h2 kv w S h es os m->(∀p∈m,h≠some p.1)->yq h2 kv w S none es os m
 |[],[],[],_,_=>trivial
 |e::es,o::os,q::m,⟨D,V,Z,h4,h5⟩,hk=>⟨D,by
  rw [aZ (hk q (pz ..))]at V;rw [aZ (by simp)];exact V,Z,h4,FG h5 fun p hp=>hk p (pA _ hp)⟩
def Tl(h: ∀p∈m,p.1≠k):jC m k=none:=by
 induction m with
 |nil=>rfl
 |cons p m ih=>unfold jC;rw [aZ (h p (pz ..))];exact ih fun q hq=>h q (pA _ hq)
def vK(hd: ∀a,MapKept.IsKey d (kv a))(hi: ∀a b,kv a=kv b->a=b)(a b:κ):Instr.sameNow d (kv a) (kv b)=some (decide (a=b)):=by
 obtain⟨r,D,V⟩:=MapKept.sameNow_of_keys (hd a) (hd b);rw [D];by_cases h:a=b
 ·subst h;rw [V.2 rfl];simp
 ·rw [zN h]
  cases r with
  |false=>rfl
  |true=>exact absurd (hi _ _ (V.1 rfl)) h
def sw(hd: ∀a,MapKept.IsKey d (kv a))(hi: ∀a b,kv a=kv b->a=b): ∀{es:List MapEntry} {os:List (Option Nat×Nat)} {m:List (κ×β)} (i:Nat),yq h2 kv w S none es os m->
  ∃os',(∀x∈os',x∈os\/x.1=none)/\yq h2 kv w S (some k) es os' m/\
   ((jC m k=none/\Instr.findNow d (kv k) es i=some none)\/ ∃(y:β) (o:Option Nat×Nat) (e:MapEntry) (j:Nat),jC m k=some y/\o∈os/\h2.p w S y o e.val/\Instr.findNow d (kv k) es i=some (some (j,e.val))/\ ∀x∈os',∀q,o.1=some q->x.1≠some q)
 |[],[],[],i,_=>⟨[],fun x I=>(by cases I),trivial,.inl ⟨rfl,rfl⟩⟩
 |e::es,o::os,q::m,i,⟨D,V,Z,h4,h5⟩=>by
  rw [aZ (by simp)]at V;by_cases hk:q.1=k
  ·refine⟨(none,0)::os,fun x I=>?_,⟨D,by rw [bq (by rw [hk])],fun _ _ _ hj=>(by cases hj),h4,?_⟩,.inr ⟨q.2,o,e,i,by unfold jC;rw [bq hk],pz ..,V,?_,fun x I j hj=>?_⟩⟩
   ·rcases iI.1 I with rfl|I
    ·exact .inr rfl
    ·exact .inl (pA _ I)
   ·have: ∀{es:List MapEntry} {os:List (Option Nat×Nat)} {m:List (κ×β)},yq h2 kv w S none es os m->(∀p∈m,p.1≠k)->yq h2 kv w S (some k) es os m:=by
     intro es
     induction es with
     |nil=>intro os m h _;cases os<;>cases m<;>first|trivial|exact h.elim
     |cons e es ih=>
      intro os m h hm
      cases os with
      |nil=>cases m<;>exact h.elim
      |cons o os=>
       cases m with
       |nil=>exact h.elim
       |cons q m=>
        obtain⟨g1,g2,g3,g4,g5⟩:=h;rw [aZ (by simp)]at g2;exact⟨g1,by rw [aZ (fun e=>hm q (pz ..) (qr e).symm)];exact g2,g3,g4,ih g5 fun p hp=>hm p (pA _ hp)⟩
    exact this h5 (fun p hp=>by rw [<-hk];exact h4 p hp)
   ·unfold Instr.findNow;rw [D,vK hd hi,hk,zM rfl]
   ·rcases iI.1 I with rfl|I
    ·exact fun e=>by cases e
    ·exact Z x I j hj
  ·obtain⟨os',g1,g2,g3⟩:=sw hd hi (i+1) h5;refine⟨o::os',fun x I=>?_,⟨D,by rw [aZ (fun e=>hk (qr e).symm)];exact V,fun o' ho' j hj=>?_,h4,g2⟩,?_⟩
   ·rcases iI.1 I with rfl|I
    ·exact .inl (pz ..)
    ·exact(g1 x I).imp (pA _) id
   ·rcases g1 o' ho' with h|h
    ·exact Z o' h j hj
    ·rw [h];exact fun e=>by cases e
   ·have Q:Instr.findNow d (kv k) (e::es) i=Instr.findNow d (kv k) es (i+1):=by
     conv=>lhs;unfold Instr.findNow
     rw [D,vK hd hi,zN (fun e=>hk e.symm)]
    have hm:jC (q::m) k=jC m k:=by conv=>lhs;unfold jC;rw [aZ hk]
    rw [Q,hm];refine g3.imp id fun⟨y,o1,e1,j,f1,f2,f3,f4,f5⟩=>⟨y,o1,e1,j,f1,pA _ f2,f3,f4,fun x I q hq=>?_⟩;rcases iI.1 I with rfl|I
    ·exact fun e=>Z o1 f2 q e hq
    ·exact f5 x I q hq
def Fs(x:α)(xs:List α)(j:Nat)(f:α->α):(x::xs).modify (j+1) f=x::xs.modify j f:=by simp [List.modify_succ_cons]
def JN(hd: ∀a,MapKept.IsKey d (kv a))(hi: ∀a b,kv a=kv b->a=b){y:β}{o:Option Nat×Nat}{v:Value}{born:Nat}(hv:h2.p w S y o v): ∀{es:List MapEntry} {os:List (Option Nat×Nat)} {m:List (κ×β)} (i:Nat),yq h2 kv w S (some k) es os m->(∀o' ∈os,∀j,o.1=some j->o'.1≠some j)->
    ∃os',(∀x∈os',x∈os\/x=o)/\
      ((∃(j:Nat) (e:MapEntry),Instr.findNow d (kv k) es i=some (some (i+j,e.val))/\es[j]? =some e/\e.key=kv k/\yq h2 kv w S none (es.modify j fun e=>{e with key:=kv k,val:=v}) os' (dC m k y))\/
        (Instr.findNow d (kv k) es i=some none/\yq h2 kv w S none (es++[⟨kv k,v,born⟩]) os' (dC m k y)))
  |[],[],[],i,_,_=>⟨[o],fun x I=> .inr (np.1 I),.inr ⟨rfl,⟨rfl,by rw [aZ (by simp)];exact hv,fun _ h=>(by cases h),fun _ h=>(by cases h),trivial⟩⟩⟩
  |e::es,o1::os,q::m,i,⟨D,V,Z,h4,h5⟩,ha=>by
    by_cases hk:q.1=k
    · refine⟨o::os,fun x I=>?_,.inl ⟨0,e,?_,rfl,by rw [D,hk],?_⟩⟩
      · rcases iI.1 I with rfl|I
        · exact .inr rfl
        · exact .inl (pA _ I)
      · unfold Instr.findNow;rw [D,vK hd hi,hk,zM rfl];rfl
      · unfold dC;rw [bq hk,List.modify_zero_cons];exact⟨rfl,by rw [aZ (by simp)];exact hv,fun o' ho' =>ha o' (pA _ ho'),fun p hp=>by rw [<-hk];exact h4 p hp,
          FG h5 fun p hp e=>h4 p hp (by rw [hk];exact(qr e).symm)⟩
    · obtain⟨os',g1,g2⟩:=JN hd hi (born:=born) hv (i+1) h5 fun o' ho' =>ha o' (pA _ ho');rw [aZ (fun e=>hk (qr e).symm)]at V;have Q:Instr.findNow d (kv k) (e::es) i=Instr.findNow d (kv k) es (i+1):=by
        conv=>lhs;unfold Instr.findNow
        rw [D,vK hd hi,zN (fun e=>hk e.symm)]
      have hm:dC (q::m) k y=q::dC m k y:=by conv=>lhs;unfold dC;rw [aZ hk]
      have hap: ∀o' ∈os',∀j,o1.1=some j->o'.1≠some j:=fun o' ho' j hj=>by
        rcases g1 o' ho' with h|rfl
        · exact Z o' h j hj
        · exact fun e=>ha o1 (pz ..) j e hj
      have Q_: ∀p∈dC m k y,p.1≠q.1:=by
        have: ∀m:List (κ×β),(∀p∈m,p.1≠q.1)-> ∀p∈dC m k y,p.1≠q.1:=by
          intro m
          induction m with
          |nil=>intro _ p hp;rw [np.1 hp];exact fun e=>hk e.symm
          |cons p0 m ih=>
            intro hm p hp;unfold dC at hp;split at hp
            · rcases iI.1 hp with rfl|hp
              · exact fun e=>hk e.symm
              · exact hm p (pA _ hp)
            · rcases iI.1 hp with rfl|hp
              · exact hm _ (pz ..)
              · exact ih (fun p hp=>hm p (pA _ hp)) p hp
        exact this m h4
      rw [Q,hm];refine⟨o1::os',fun x I=>?_,g2.imp (fun⟨j,e',f1,f2,f3,f4⟩=>⟨j+1,e',by rw [f1];congr 3;omega,by simpa using f2,f3,?_⟩) fun⟨f1,f2⟩=>⟨f1,?_⟩⟩
      · rcases iI.1 I with rfl|I
        · exact .inl (pz ..)
        · exact(g1 x I).imp (pA _) id
      · rw [Fs];exact⟨D,by rw [aZ (by simp)];exact V,hap,Q_,f4⟩
      · exact⟨D,by rw [aZ (by simp)];exact V,hap,Q_,f2⟩
def Bi{h:Option κ}: ∀{es:List MapEntry} {os:List (Option Nat×Nat)} {m:List (κ×β)},yq h2 kv w S h es os m-> ∀x∈es,∃q∈m,x.key=kv q.1
 |[],[],[],_,x,I=>by cases I
 |e::es,o::os,q::m,⟨D,_,_,_,h5⟩,x,I=>by
  rcases iI.1 I with rfl|I
  ·exact⟨q,pz ..,D⟩
  ·obtain⟨q',g1,g2⟩:=Bi h5 x I;exact⟨q',pA _ g1,g2⟩
def Jz{h:Option κ}: ∀{es:List MapEntry} {os:List (Option Nat×Nat)} {m:List (κ×β)},yq h2 kv w S h es os m-> ∀q∈m,∃x∈es,x.key=kv q.1
 |[],[],[],_,q,hq=>by cases hq
 |e::es,o::os,q0::m,⟨D,_,_,_,h5⟩,q,hq=>by
  rcases iI.1 hq with rfl|hq
  ·exact⟨e,pz ..,D⟩
  ·obtain⟨x,g1,g2⟩:=Jz h5 q hq;exact⟨x,pA _ g1,g2⟩
def TG(hd: ∀a,MapKept.IsKey d (kv a)){h:Option κ}{es:List MapEntry}{i:Nat}(h4:yq h2 kv w S h es os m)(g1:Instr.findNow d (kv k) es i=some none){x:MapEntry}(I:x∈es):x.key≠kv k:=by
 rcases MapKept.findNow_spec (hd k) es i (fun y hy=>by obtain⟨q,_,e⟩:=Bi h4 y hy;rw [e];exact hd _)with⟨_,V⟩|⟨j,e,V,_⟩
 ·exact V x I
 ·rw [g1]at V;cases V
def sr(h2:MV β)(kv:κ->Value)(b:Nat)(h:Option κ)(os:List (Option Nat×Nat))(m:List (κ×β)):OE where
 fp:=fun j=>j=b\/ ∃o∈os,o.1=some j
 p:=fun w S=>S b=none/\(∀o∈os,o.1≠some b)/\ ∃es clock,w.heap[b]? =some (.map es clock)/\yq h2 kv w S h es.toList os m/\MapKept.Stamped es clock
 here:=by
  intro w S ⟨_,_,es,clock,Z,h4,_⟩ j hj;rcases hj with rfl|⟨o,ho,hj⟩
  ·exact(s9.1 Z).1
  ·exact Bj h4 o ho j hj
 kept:=by
  intro C w w' S S' ⟨D,V,es,clock,Z,h4,hst⟩ k hC;have o_:=(s9.1 Z).1;exact⟨by rw [k.old b o_ (hC b (.inl rfl))];exact D,V,es,clock,by rw [k.heap b o_ (hC b (.inl rfl))];exact Z,wM k h4 (fun o ho j hj=>hC j (.inr ⟨o,ho,hj⟩)),hst⟩
def ni(b:Nat):Value:= .map (some b)
end
variable{E:En}{G:oz}{N:Fr}{O:List OE}{hf:Exit->Act->World->Prop}{T:TypeId}{after:Array Edge}{dst:Option Tmp}{et:TypeId}{fp:Nat->Prop}{g:Option (Nat×Bool)}{n:Nat}{ops:Array Oper}{pos:String}{γ:Type}{rest:List Oper}{t:TypeId}{u:Value}{x1 x2 x3 x4:OE}{z:List Value}{zv:Value}
section
variable [DecidableEq κ]{k:κ}{i v:Operand}{dst:Option Nat}{ty:TypeId}
def B3(N:Fr)(G:oz)(x:Operand)(u:Value):Prop:= ∀S a,cH N S a G->a.eval x=u
def nQ{q:IntKind}{n:Int}(h:aG N G x (tD (rI q) n)):B3 N G x (kvI q n):=fun S a Q=>gm.1 (h S a Q)
def ZV(P:Program)(T:TypeId)(z:Value):Prop:=(P.info? T).bind (·.zero)=some z
def ZV.run{z:Value}(h:ZV P T z)(w:World):(zeroValue T).run P w= .ok z w:=by
 unfold ZV at h
 cases hi:P.info? T with
 |none=>rw [hi]at h;cases h
 |some i=>
  rw [hi]at h;have h' :i.zero=some z:=h;simp [zeroValue,typeInfo,hi,h']
def wO(h2:MV β)(kv:κ->Value)(hd:Nat.blt d E.N.n=true)(k: ∀b,RG E ops hf rest (sr h2 kv b none [] []::O) ((d,tV (ni b))::G)):
  RG E ops hf (⟨some d,.makeMap t none,ty,pos,after,none⟩::rest) O G:= .of rfl fun a w S st=>by
 obtain⟨he,hs',G_⟩:=gb (w:=w) (.map #[] 0) st.sat;have u_:(execOp a.eval ⟨some d,.makeMap t none,ty,pos,after,none⟩).run E.P w= .ok (.value (ni w.heap.size)) (w.alloc (.map #[] 0)):=by
  simp [execOp,Instr.makeMap,ni]
 refine⟨fun c h=>(by cases h),?_⟩;rw [u_];exact k w.heap.size _ _ S ⟨st.ext.step0 he,hs',rR st.own he ⟨G_,fun _ h=>(by cases h),#[],0,xU w _,trivial,MapKept.stamped_empty 0⟩ (fun b K=>by
  rcases K with rfl|⟨_,h,_⟩
  ·exact eX _
  ·cases h) st.H_,st.facts.put hd rfl⟩
def mZ{kk:Value}{es:Array MapEntry}{clock:Nat}{q:TypeDesc}{z:Value}{u:Option (Nat×Value)}(hm:P.underlying t=some (.map kt et))(hq:P.underlying kt=some q)(hk:MapKept.IsKey q kk)(K:w.heap[b]? =some (.map es clock))(hz:ZV P et z)(Q:Instr.findNow q kk es.toList 0=some u)(c:Bool):(Instr.lookup t (ni b) kk c).run P w= .ok (if c then .tuple #[(u.map (·.2)).getD z,.bool u.isSome]else(u.map (·.2)).getD z) w:=by
 cases u with
 |none=>simp [Instr.lookup,ni,lc hm,E6 K,QO hq hk,MapKept.run_findKey hq Q,hz.run,Result.andThen]
 |some r=>simp [Instr.lookup,ni,lc hm,E6 K,QO hq hk,MapKept.run_findKey hq Q,Result.andThen]
def Cs{γ:β->Ty}{z:β}(hm:E.P.underlying t=some (.map kt et))(hk:FP E.P kt kv)(hz:ZV E.P et zv)(hzt: ∀S,(γ z).p S zv)(hmem:sr (CL γ) kv b none os m∈O)(I:aG E.N G x (tV (ni b)))(hi:B3 E.N G i (kv k)):
  ck E O G ⟨dst,.lookup t x i false,ty,pos,after,g⟩ (γ ((jC m k).getD z)):= .of_pure fun a w S hs ho Q=>by
 obtain⟨⟨_,_,es,clock,Z,h4,_⟩,_⟩:=dR.mem ho _ hmem;obtain⟨q,hq,hd,hinj⟩:=hk;have D:a.eval x=ni b:=I S a Q;have V:a.eval i=kv k:=hi S a Q;obtain⟨_,_,_,h5⟩:=sw hd hinj (k:=k) 0 h4;rcases h5 with⟨g1,g2⟩|⟨y,o,e,j,g1,g2,g3,g4,g5⟩
 ·refine⟨zv,by simp [execOp,D,V,mZ hm hq (hd k) Z hz g2],by rw [g1];exact hzt S⟩
 ·refine⟨e.val,by simp [execOp,D,V,mZ hm hq (hd k) Z hz g4],by rw [g1];exact g3.2⟩
def MQ{γ:β->Ty}{z:β}(hm:E.P.underlying t=some (.map kt et))(hk:FP E.P kt kv)(hz:ZV E.P et zv)(hzt: ∀S,(γ z).p S zv)(hmem:sr (CL γ) kv b none os m∈O)(I:aG E.N G x (tV (ni b)))(hi:B3 E.N G i (kv k)):
  ck E O G ⟨dst,.lookup t x i true,ty,pos,after,g⟩ (tT [γ ((jC m k).getD z),tD rB (jC m k).isSome]):= .of_pure fun a w S hs ho Q=>by
 obtain⟨⟨_,_,es,clock,Z,h4,_⟩,_⟩:=dR.mem ho _ hmem;obtain⟨q,hq,hd,hinj⟩:=hk;have D:a.eval x=ni b:=I S a Q;have V:a.eval i=kv k:=hi S a Q;obtain⟨_,_,_,h5⟩:=sw hd hinj (k:=k) 0 h4;rcases h5 with⟨g1,g2⟩|⟨y,o,e,j,g1,g2,g3,g4,g5⟩
 ·refine⟨.tuple #[zv,.bool false],by simp [execOp,D,V,mZ hm hq (hd k) Z hz g2],[zv,.bool false],rfl,by rw [g1];exact hzt S,jN.2 (by rw [g1];rfl),trivial⟩
 ·refine⟨.tuple #[e.val,.bool true],by simp [execOp,D,V,mZ hm hq (hd k) Z hz g4],[e.val,.bool true],rfl,by rw [g1];exact g3.2,jN.2 (by rw [g1];rfl),trivial⟩
def Er{kk:Value}{es:Array MapEntry}{clock:Nat}{q:TypeDesc}{val:Value}(hm:P.underlying t=some (.map kt et))(hq:P.underlying kt=some q)(hk:MapKept.IsKey q kk)(K:w.heap[b]? =some (.map es clock)):
  (Instr.findNow q kk es.toList 0=some none->(Instr.mapUpdate t (ni b) kk val).run P w= .ok () {w with heap:=w.heap.setIfInBounds b (.map (es.push ⟨kk,val,clock⟩) (clock+1))})/\
  (∀j e,Instr.findNow q kk es.toList 0=some (some (j,e))->(∀e',es.toList[j]? =some e' ->e'.key=kk)->(∃e',es.toList[j]? =some e')->(Instr.mapUpdate t (ni b) kk val).run P w= .ok () {w with heap:=w.heap.setIfInBounds b (.map (es.modify j fun e=>{e with key:=kk,val:=val}) clock)}):=by
 refine⟨fun Q=>?_,fun j e Q hj he=>?_⟩
 ·simp [Instr.mapUpdate,ni,lc hm,E6 K,QO hq hk,MapKept.run_findKey hq Q,QS _ K,Result.andThen]
 ·obtain⟨e',he'⟩:=he;have D:=hj e' he';have V:es[j]? =some e' :=by simpa using he'
  simp [Instr.mapUpdate,ni,lc hm,E6 K,QO hq hk,MapKept.run_findKey hq Q,QS _ K,Result.andThen,V,D,MapKept.run_keyThatStays hk]
def Jv{o:Option Nat×Nat}{val:Value}(hs:kQ w S)(hm:E.P.underlying t=some (.map kt et))(hk:FP E.P kt kv)(hp:(sr h2 kv b (some k) os m).p w S)(hv:h2.p w S y o val)(hob:o.1≠some b)(hap: ∀o' ∈os,∀j,o.1=some j->o'.1≠some j):
  ∃w' os',(Instr.mapUpdate t (ni b) (kv k) val).run E.P w= .ok () w' /\ji (fun j=>j=b) w S w' S/\kQ w' S/\(sr h2 kv b none os' (dC m k y)).p w' S/\(∀j,(sr h2 kv b none os' (dC m k y)).fp j->(sr h2 kv b (some k) os m).fp j\/o.1=some j):=by
 obtain⟨G_,hnb,es,clock,Z,h4,hst⟩:=hp;obtain⟨q,hq,hdk,hinj⟩:=hk;obtain⟨os',p1,p2⟩:=JN hdk hinj (born:=clock) hv 0 h4 hap;have hnb' : ∀o' ∈os',o'.1≠some b:=fun o' ho' =>by
  rcases p1 o' ho' with h|rfl
  ·exact hnb o' h
  ·exact hob
 have hfp: ∀j,(j=b\/ ∃o∈os',o.1=some j)->(j=b\/ ∃o∈os,o.1=some j)\/o.1=some j:=fun j hj=>by
  rcases hj with h|⟨o',ho',e⟩
  ·exact .inl (.inl h)
  ·rcases p1 o' ho' with h|rfl
   ·exact .inl (.inr ⟨o',h,e⟩)
   ·exact .inr e
 have hw: ∀X:Obj,ji (fun j=>j=b) w S {w with heap:=w.heap.setIfInBounds b X} S/\kQ {w with heap:=w.heap.setIfInBounds b X} S/\({w with heap:=w.heap.setIfInBounds b X}:World).heap[b]? =some X:=fun X=>
  ⟨⟨rfl,rfl,rfl,eX _,by simp,fun j _ hj=>(LN (o' :=X) Z).2 j hj,SH.le_refl _,fun _ _ _=>rfl⟩,hs.same fun j o hj=>(LN (o' :=X) Z).2 j (fun e=>by subst e;rw [G_]at hj;cases hj),(LN Z).1⟩
 obtain⟨r1,r2⟩:=Er (val:=val) hm hq (hdk k) Z;rcases p2 with⟨j,e,g1,g2,g3,g4⟩|⟨g1,g2⟩
 ·rw [oZ]at g1;obtain⟨x1,x2,x3⟩:=hw (.map (es.modify j fun e=>{e with key:=kv k,val:=val}) clock);refine⟨_,os',r2 j _ g1 (fun e' he' =>by rw [g2]at he';cases he';exact g3) ⟨_,g2⟩,x1,x2,⟨G_,hnb',_,_,x3,?_,MapKept.stamped_modify hst j _ (fun _ _=>rfl) (fun e' _ he' =>by rw [<-QR,g2]at he';cases he';exact g3.symm)⟩,hfp⟩;refine wM x1 (by rw [Array.toList_modify];exact g4) fun o' ho' j hj e=>?_;subst e;exact hnb' o' ho' hj
 ·obtain⟨x1,x2,x3⟩:=hw (.map (es.push ⟨kv k,val,clock⟩) (clock+1));refine⟨_,os',r1 g1,x1,x2,⟨G_,hnb',_,_,x3,?_,MapKept.stamped_push hst (fun x I e=>?_)⟩,hfp⟩
  rotate_left
  ·exact TG hdk h4 g1 I e
  refine wM x1 (by rw [Array.toList_push];exact g2) fun o' ho' j hj e=>?_;subst e;exact hnb' o' ho' hj
def Sa{γ:β->Ty}(hm:E.P.underlying t=some (.map kt et))(hk:FP E.P kt kv)(I:aG E.N G x (tV (ni b)))(hi:B3 E.N G i (kv k))(hv:aG E.N G v (γ y))(h: ∀os',RG E ops hf rest (sr (CL γ) kv b none os' (dC m k y)::O) G):
  RG E ops hf (⟨none,.mapUpdate t x i v,ty,pos,after,none⟩::rest) (sr (CL γ) kv b none os m::O) G:= .of rfl fun a w S st=>by
 have D:a.eval x=ni b:=I S a st.facts;have V:a.eval i=kv k:=hi S a st.facts;have Z:(γ y).p S (a.eval v):=hv S a st.facts;obtain⟨⟨hp,hfp⟩,hap,hO⟩:=st.own;obtain⟨G_,hnb,es,clock,e3,e4,hst⟩:=hp;obtain⟨q,hq,hdk,hinj⟩:=hk;obtain⟨os1,p1,p2,_⟩:=sw hdk hinj (k:=k) 0 e4;have hnb1: ∀o∈os1,o.1≠some b:=fun o ho=>by
  rcases p1 o ho with h|h
  ·exact hnb o h
  ·rw [h];exact fun e=>by cases e
 obtain⟨w',os',r,x1,x2,x3,x4⟩:=Jv (h2:=CL γ) (E:=E) (y:=y) (o:=(none,0)) (val:=a.eval v) st.sat hm ⟨q,hq,hdk,hinj⟩ ⟨G_,hnb1,es,clock,e3,p2,hst⟩ ⟨rfl,Z⟩ (fun e=>by cases e) (fun _ _ _ e=>by cases e);have u_:(execOp a.eval ⟨none,.mapUpdate t x i v,ty,pos,after,none⟩).run E.P w= .ok .skip w' :=by simp [execOp,D,V,r]
 refine⟨fun c h=>(by cases h),?_⟩;rw [u_];have hfp' : ∀j,(sr (CL γ) kv b none os' (dC m k y)).fp j->(sr (CL γ) kv b none os m).fp j:=fun j hj=>by
  rcases x4 j hj with(h|⟨o,ho,e⟩)|e
  ·exact .inl h
  ·rcases p1 o ho with h|h
   ·exact .inr ⟨o,h,e⟩
   ·rw [h]at e;cases e
  ·cases e
 exact h os' _ _ S ⟨st.ext.step x1 (fun c hc=>hfp c (.inl hc)),x2,⟨⟨x3,fun j hj=>hfp j (hfp' j hj)⟩,fun f Q j hj=>hap f Q j (hfp' j hj),hO.ext x1 fun f Q j hj hjb=>hap f Q j (.inl hjb) hj⟩,st.facts⟩
end
def Cm(tmps:Array Value):ResultVar->Sem Value
 | .tmp t=>pure (tmps.getD t undef)
 | .cell a t=>do loadVar t (<-asAddr (tmps.getD a undef))
def R9(P:Program)(N:Fr)(G:oz)(rv:ResultVar)(t:Ty):Prop:= ∀a w S,kQ w S->cH N S a G-> ∃v,(Cm a.tmps rv).run P w= .ok v w/\t.p S v
def fb{t:Ty}(hk:look G k=some t):R9 P N G (.tmp k) t:=fun a w S _ Q=>⟨_,rfl,Q.h_ k t hk⟩
variable{U:TypeId}{agg:Bool}{bytes off sz:Nat}
def jP{x:α}(ti:TI P T sz bytes agg z)(k_:r.sz=sz)(hag:r.agg=agg)(hk:look G k=some (aY r x)):R9 P N G (.cell k T) (tD r x):=fun a w S hs Q=>by
 obtain⟨b,off,c,U,fr,D,V,Z⟩:=Q.h_ k _ hk;obtain⟨c',h4,h5⟩:=hs.part V (r.len Z);rw [<-h5]at Z;have hl:=nv ti h4 k_ hag Z;have h1' :a.tmps[k]?.getD undef=Value.pointer (some ⟨b,off,none⟩):=by simpa [Ka] using D
 exact⟨_,by simp [Cm,h1',asAddr,hl],_,rfl,Z⟩
def Ua(P:Program)(N:Fr)(G:oz):List ResultVar->List Ty->Prop
 |[],[]=>True
 |rv::rvs,t::ts=>R9 P N G rv t/\Ua P N G rvs ts
 |_,_=>False
variable{ts:List Ty}
def Ua.run(hs:kQ w S)(Q:cH N S a G): ∀{rvs:List ResultVar} {ts:List Ty},Ua P N G rvs ts-> ∃vs,(rvs.mapM (Cm a.tmps)).run P w= .ok vs w/\yw S ts vs/\vs.length=rvs.length
 |[],[],_=>⟨[],rfl,trivial,rfl⟩
 |rv::rvs,t::ts,⟨D,V⟩=>by
  obtain⟨v,g1,g2⟩:=D a w S hs Q;obtain⟨vs,k1,k2,k3⟩:=Ua.run hs Q V;exact⟨v::vs,by simp [List.mapM_cons,g1,k1,Result.andThen],⟨g2,k2⟩,by simp [k3]⟩
variable{B:Nat->Prop}{S0:SH}{fn:Func}{w0:World}
def rj{N:Nat}{rvs:List ResultVar}(hr:fn.results=rvs.toArray)(D:Nat.beq rvs.length 1=false)(h:Ua P ⟨N,[]⟩ G rvs ts):
  AT ⟨P,⟨N,[]⟩,B,w0,S0,none⟩ (bodyPost P fn (IE ⟨P,⟨N,[]⟩,B,w0,S0,none⟩ (tT ts))) .ret O G:=fun a w S st=>by
 obtain⟨vs,k1,k2,k3⟩:=h.run st.sat st.facts;have Q_: ¬vs.length=1:=by rw [k3];intro e;rw [e]at D;cases D
 refine⟨st.facts.defers,.tuple vs.toArray,?_,_,S,rfl,st.ext,st.sat,vs,rfl,k2⟩;have e1:(fn.results.mapM (Cm a.tmps)).run P w= .ok vs.toArray w:=by
  rw [hr,List.mapM_toArray,Sem.run_map,k1];rfl
 have e3:results fn a.tmps=((fn.results.mapM (Cm a.tmps))>>=fun vs=>pure (if h:vs.size=1 then vs[0]else .tuple vs)):=rfl;rw [e3,uc,e1];simp [Result.andThen,Q_]
variable{cap:Nat}{cs:List Value}
def UU(h:(tD (eW r) xs).p S v):(eW r).rc S [v] xs:=by
 obtain⟨cs,e,V⟩:=h;obtain⟨a,cap,e2,Z⟩:=V;subst e2;rw [e];exact⟨a,cap,rfl,Z⟩
variable{base:Nat}
section
variable{ty:TypeId}
def jH{r:Rp β}{get:β->Value}{x:β}{p:Operand}{l:Option Nat}(ti:TI E.P U 1 bytes false z)(hget:mT r off rV get)(hm:bx r T b x∈O)(hv:get x=ak l cap n)(hp:aG E.N G p (tV (an b off))):
  ck E O G ⟨dst,.load U p,ty,pos,after,g⟩ (tV (ak l cap n)):=(ay (q:=rV) ti rfl rfl hget hm hp).imp fun _ _ h=>by rw [<-hv];exact(yS.1 h).1
def sO{q:Rp α}{r:Rp β}{get:β->Value}{x:β}{h2:TypeId}{p:Operand}{l:Option Nat}(ti:TI E.P U 1 bytes false z)(hget:mT r off rV get)(hm:bx r T b x∈O)(hm2:dM q h2 l cap xs∈O)(hv:get x=ak l cap xs.length)(hp:aG E.N G p (tV (an b off))):
  ck E O G ⟨dst,.load U p,ty,pos,after,g⟩ (tO q l cap xs):=fun a w S hs ho Q=>
 qk (fun _ _ ⟨v,S',D,V,Z,h4⟩=>⟨v,S',D,V,Z,h4,by
  have h5:v=ak l cap xs.length:=h4;rw [h5];exact pY (((ho.ext0 V).mem _ hm2).1)⟩) (jH (g:=g) (ty:=ty) (pos:=pos) (after:=after) (dst:=dst) ti hget hm hv hp a w S hs ho Q)
def bS{i o:Nat}{p:Operand}(Q:cb E.P T i=some (off,sz))(h0:Nat.beq sz 0=false)(hp:aG E.N G p (tV (an b o)))(he:o+off=n):ck E O G ⟨dst,.fieldAddr T p i,ty,pos,after,g⟩ (tV (an b n)):=by
 subst he;exact Iy Q h0 hp
def wA{q:Rp α}{r:Rp β}{x:β}{y:α}{p:Operand}(ti:TI E.P U sz bytes agg z)(k_:q.sz=sz)(hag:q.agg=agg)(hag2:r.agg=agg)(hsz2:r.sz=sz)(hm:bx r T b x∈O)(hc: ∀w S cs,dR E.base E.B w S O->r.rc S cs x->q.rc S cs y)(hp:aG E.N G p (tV (an b 0))):
  ck E O G ⟨dst,.load U p,ty,pos,after,g⟩ (tD q y):= .of_pure fun a w S _ ho Q=>by
 have D:a.eval p=an b 0:=hp S a Q;obtain⟨⟨_,cur,h5,h6⟩,_⟩:=ho.mem _ hm;have h7:=hc w S _ ho h6;have hl:=q.len h7;have h8:q.rc S ((cur.toList.drop 0).take q.sz) y:=by rw [vj,s8 (by omega)];exact h7
 exact⟨_,by simp [execOp,D,an,Instr.loadAt,Instr.sureAddr,nv ti h5 k_ hag h8],_,rfl,h8⟩
def nM{q:Rp α}{h2:TypeId}{l:Option Nat}(ho:dR base B w S O)(hm:dM q h2 l cap xs∈O):(eW q).rc S [ak l cap xs.length] xs:=UU (pY (ho.mem _ hm).1)
end
def rP{α β γ:Type}(r:Rp α)(r' :Rp γ)(off:Nat)(q:Rp β)(x:α)(y:β)(x' :γ):Prop:= ∀S cs ds,r.rc S cs x->q.rc S ds y->r'.rc S (cs.take off++ds++cs.drop (off+q.sz)) x'
variable{set:α->β->α}
def yV{x:α}(h:gn r off q set):rP r r off q x y (set x y):=fun S cs ds D V=>h S cs x ds y D V
variable{r' :Rp γ}
def o6{x:α}{y:γ}(hs:r.sz=r'.sz):rP r r' 0 r' x y y:=fun S cs ds D V=>by
 have hl:=r.len D;rw [List.take_zero,lz,Ec (by omega),yH];exact V
def Gl{α' :Type}{p:Rp α}{p' :Rp α'}{x:α×β}{y:γ}{u:Rp γ}{x1:α'}(h:rP p p' 0 u x.1 y x1)(hu:Nat.ble u.sz p.sz=true):rP (cu p q) (cu p' q) 0 u x y (x1,x.2):=fun S cs ds ⟨a,b,e,D,V⟩ hd=>by
 have hl:=p.len D;have hu' :=rx hu;have Z:=h S a ds D hd;subst e;rw [List.take_zero,lz,oZ,LM (by omega),<-gJ];rw [List.take_zero,lz,oZ]at Z;exact⟨_,_,rfl,Z,V⟩
def eS{β' :Type}{p:Rp α}{q' :Rp β'}{x:α×β}{y:γ}{u:Rp γ}{off' :Nat}{x2:β'}(h:rP q q' off u x.2 y x2)(ho:off' =p.sz+off):rP (cu p q) (cu p q') off' u x y (x.1,x2):=fun S cs ds ⟨a,b,e,D,V⟩ hd=>by
 have hl:=p.len D;have Z:=h S b ds V hd;subst e ho;refine⟨a,_,?_,D,Z⟩;have e1:p.sz+off-a.length=off:=by omega
 have e2:p.sz+off+u.sz-a.length=off+u.sz:=by omega
 rw [List.take_append,List.drop_append,s8 (by omega),Ec (by omega),e1,e2];simp
variable{x' :γ}
def xg{α' β' :Type}{p:Rp α}{p' :Rp α'}{f:β->α}{f' :β' ->α'}{x:β}{x' :β'}{y:γ}{u:Rp γ}{z:α'}(h:rP p p' off u (f x) y z)(e:f' x' =z):rP (nS p f) (nS p' f') off u x y x' :=fun S cs ds D V=>by
 show p'.rc S _ (f' x');rw [e];exact h S cs ds D V
section
variable{ty:TypeId}
def f9{x:α}{p v:Operand}(ti:TI E.P U sz bytes agg z)(k_:q.sz=sz)(I_:rP r r' off q x y x')(hoff:Nat.ble (off+q.sz) r.sz=true)(hp:aG E.N G p (tV (an b off)))(hv:aG E.N G v (tD q y))(k:RG E ops hf rest (bx r' T b x' ::O) G):RG E ops hf (⟨none,.store U p v,ty,pos,after,none⟩::rest) (bx r T b x::O) G:= .of rfl fun a w S st=>by
 have D:a.eval p=an b off:=hp S a st.facts;obtain⟨ds,V,Z⟩:=hv S a st.facts;obtain⟨⟨G_,cur,h5,h6⟩,_⟩:=st.own.1;have hl:=r.len h6;have hoff' :=rx hoff;obtain⟨w',hr,e1,e2,e3,e4,e5,e6⟩:=nV ti k_ Z h5 (off:=off) (by simp at hl;omega);have u_:(execOp a.eval ⟨none,.store U p v,ty,pos,after,none⟩).run E.P w= .ok .skip w' :=by
  simp [execOp,D,V,Instr.storeAt,an,Instr.sureAddr,hr]
 refine⟨fun c h=>(by cases h),?_⟩;rw [u_];obtain⟨g1,g2,g3⟩:=q8 (O:=O) st.sat (bx r T b x) (bx r' T b x') st.own (fun _=>wh) (fun _=>wh) ⟨e1,e2,e3,e4.1,e4.2⟩ e6 ⟨G_,_,e5,by simpa using I_ S _ _ h6 Z⟩ G_;exact k _ _ S ⟨st.ext.step g1 (fun c hc=>st.own.1.2 c hc),g2,g3,st.facts⟩
def St.cvB{x:α}(h: ∀w S cs,dR E.base E.B w S O->r.rc S cs x->r'.rc S cs x')(st:St E (bx r T b x::O) G a w S):St E (bx r' T b x' ::O) G a w S:=
 st.own_map fun⟨⟨⟨D,c,V,Z⟩,h4⟩,h5,h6⟩=>⟨⟨⟨D,c,V,h _ _ _ h6 Z⟩,h4⟩,h5,h6⟩
def xR{x:α}(h: ∀w S cs,dR E.base E.B w S O->r.rc S cs x->r'.rc S cs x')(k:AT E hf e (bx r' T b x' ::O) G):AT E hf e (bx r T b x::O) G:=fun a w S st=>k a w S (st.cvB h)
end
section
variable{b:Frame}{k:List Item}{cs:List Frame}{F:Fence}
def sH:step P (lone (b.atR a (.code (.scope c)::k)) cs w)= .next (lone (b.atR a (.code c:: .inScope c::k)) cs w):=
 step_lone_go (by simp [stepG,stepG.exec,Frame.atR])
def Iq:step P (lone (b.atR a (.inScope c::k)) cs w)= .next (lone (b.atR a k) cs w):=
 step_lone_go (by simp [stepG,stepG.exec,Frame.atR])
def ON(h:c.wpIn F n P (Exit.noGoto hf) a w):(Code.scope c).wpIn F n P hf a w:=by
 intro b k cs hro K hr;have h0:(lone (b.atR a (.code (.scope c)::k)) cs w).fenced P F:=fenced_calm K hr rfl;obtain⟨e,a₁,w₁,hq,harr⟩:=h b (.inScope c::k) cs hro K hr
 cases e with
 |normal=>exact⟨.normal,a₁,w₁,hq,.head h0 sH (StepsIn.trans harr (.one (fenced_calm K hr rfl) Iq))⟩
 |exit id=>
  have I:exitTo id (.inScope c::k)=exitTo id k:=by simp [exitTo]
  exact⟨.exit id,a₁,w₁,hq,fun k' hk=> .head h0 sH (harr.1 k' (by rw [I];exact hk)),
   fun hr' hk=>let⟨k₁,D,V⟩:=harr.2 hr' (by rw [I];exact hk);⟨k₁,D,.head h0 sH V⟩⟩
 |goto l=>exact hq.elim
 |ret=>exact⟨_,a₁,w₁,hq,.of_steps (.one h0 sH) harr⟩
 |panic ch=>exact⟨_,a₁,w₁,hq,.of_steps (.one h0 sH) harr⟩
 |outgrown=>exact⟨_,a₁,w₁,hq,.of_steps (.one h0 sH) harr⟩
end
section
def Ic(h:CG E (Exit.noGoto hf) c O G):CG E hf (.scope c) O G:=fun a w S st=>ON (h a w S st)
def Id{l:Nat}(h:AT E hf .normal O G):CG E hf (.label l) O G:=fun a w S st=>wpIn_label (h a w S st)
def sW(h:AT E hf .ret O G):AT E (Exit.noGoto hf) .ret O G:=h
end
def K8 [Inhabited α]{m i:Nat}(h:i<m):mT (sj r m) (i*r.sz) r (fun x=>(x[i]?).getD default):=fun S cs x ⟨D,V⟩=>by
 have hi:x[i]? =some ((x[i]?).getD default):=by rw [qV (by omega)];rfl
 exact Gn V hi
def YL [DecidableEq α] [Inhabited α]{m t e:Nat}(Y:P.underlying t=some (.array m e))(ti:TI P e sz bytes agg z)(k_:r.sz=sz)(hag:r.agg=agg)(he:rl P e r n):rl P t (sj r m) (n+1):=fun S cs ds x y d w I hy=>by
 obtain⟨i,zv,hi,hs,_⟩:=ti.get;have hcell:P.cellsOf e=r.sz:=by unfold Program.cellsOf;rw [hi];simp [hs,k_]
 have e1:(sj r m).val cs= .agg cs.toArray:=rfl;have e2:(sj r m).val ds= .agg ds.toArray:=rfl;rw [e1,e2,show d+(n+1)=(d+n)+1 from rfl,run_equalIn_array w (d+n) cs.toArray ds.toArray Y hi,List.range_eq_range',hcell];have key: ∀k j,j+k=m->(Op.eqItems (d+n) e r.sz cs.toArray ds.toArray (List.range' j k)).run P w= .ok (decide (x.drop j=y.drop j)) w:=by
  intro k
  induction k with
  |zero=>
   intro j hj;rw [Ec (by have:=I.1;omega),Ec (by have:=hy.1;omega)];rfl
  |succ k ih=>
   intro j hj;have hjx:j<x.length:=by have:=I.1;omega
   have hjy:j<y.length:=by have:=hy.1;omega
   have D:=vL ti k_ hag (K8 (r:=r) (m:=m) (i:=j) (by omega)) I w;have V:=vL ti k_ hag (K8 (r:=r) (m:=m) (i:=j) (by omega)) hy w;have Z:=he S _ _ _ _ d w (K8 (r:=r) (m:=m) (i:=j) (by omega) S cs x I) (K8 (r:=r) (m:=m) (i:=j) (by omega) S ds y hy);rw [List.range'_succ];unfold Op.eqItems;simp only [uc,D,V,Z,vm];have ex:x.drop j=(x[j]?).getD default::x.drop (j+1):=by rw [qV hjx];exact yK hjx
   have ey:y.drop j=(y[j]?).getD default::y.drop (j+1):=by rw [qV hjy];exact yK hjy
   rw [ex,ey];by_cases hq:(x[j]?).getD default=(y[j]?).getD default
   ·simp only [hq,decide_true,s6,qD,lS];rw [ih (j+1) (by omega)];congr 1;simp
   ·simp [hq]
 have:=key m 0 (by omega);simpa using this
variable{ys:List α}
section
variable{ty:TypeId}
def uo{xs:List Operand}{m sz' bytes' :Nat}{agg' :Bool}{z' :List Value}(Y:E.P.underlying t=some (.array m T))(ti:TI E.P T sz bytes agg z)(k_:r.sz=sz)(tj:TI E.P t sz' bytes' agg' z')(hz:z'.length=m*r.sz)(hm:m=ys.length)(I:k5 E.N G xs (ys.map (tD r))):ck E O G ⟨dst,.build t (BY 0 xs).toArray,ty,pos,after,g⟩ (tD (sj r m) ys):=
 .of_pure fun a w S _ _ hF=>by
  obtain⟨zv,hzr,hzc⟩:=tj.zero w;obtain⟨cs,hc,hfill⟩:=HN ys (xs.map a.eval) 0 [] z' (I.tys hF) (by simp) (by rw [hz,hm]);subst k_;have hparts:((BY 0 xs).toArray.map fun(i,x)=>(i,a.eval x)).toList=FF 0 (xs.map a.eval):=by simpa using EK a.eval 0 xs
  rw [lz,lz]at hfill;refine⟨.agg cs.toArray,?_,cs,rfl,hm.symm,hc⟩;simp only [execOp,Instr.build,uc,hzr,vm,lc Y,ti.sizeOf,hzc,hparts,hfill];simp
end
def Ab(N:Nat):List Nat->List Oper->Bool
 |_,[]=>true
 |seen,o::rest=>match o.dst with
  |some d=>Nat.blt d N&& !(seen.any (Nat.beq d))&&Ab N (d::seen) rest
  |none=>Ab N seen rest
def Ff{N:Nat}(l:List Oper): ∀(seen:List Nat),Ab N seen l=true->
  (∀o:Oper,o∈l-> ∀d,o.dst=some d->d<N/\d∉seen)/\ ∀(i j:Nat) (o p:Oper) (d:Nat),l[i]? =some o->l[j]? =some p->o.dst=some d->p.dst=some d->i=j:=by
 induction l with
 |nil=>exact fun _ _=>⟨fun _ h=>(by cases h),fun _ _ _ _ _ h=>(by simp at h)⟩
 |cons o l ih=>
  intro seen h;unfold Ab at h
  cases hd:o.dst with
  |none=>
   rw [hd]at h;obtain⟨D,V⟩:=ih seen h;refine⟨fun q hq d hqd=>?_,fun i j p q d hi hj hp hq=>?_⟩
   ·rcases iI.1 hq with rfl|hq
    ·rw [hd]at hqd;cases hqd
    ·exact D q hq d hqd
   ·cases i with
    |zero=>simp at hi;subst hi;rw [hd]at hp;cases hp
    |succ i=>
     cases j with
     |zero=>simp at hj;subst hj;rw [hd]at hq;cases hq
     |succ j=>rw [V i j p q d (by simpa using hi) (by simpa using hj) hp hq]
  |some d0=>
   rw [hd]at h;simp only [jJ,xS,FS]at h;obtain⟨⟨g1,g2⟩,g3⟩:=h;obtain⟨D,V⟩:=ih (d0::seen) g3;have hns:d0∉seen:=fun hm=>by
    have:seen.any (Nat.beq d0)=true:=zO.2 ⟨d0,hm,Nat.beq_refl d0⟩;rw [this]at g2;cases g2
   refine⟨fun q hq d hqd=>?_,fun i j p q d hi hj hp hq=>?_⟩
   ·rcases iI.1 hq with rfl|hq
    ·rw [hd]at hqd;cases hqd;exact⟨g1,hns⟩
    ·obtain⟨k1,k2⟩:=D q hq d hqd;exact⟨k1,fun hm=>k2 (pA _ hm)⟩
   ·cases i with
    |zero=>
     cases j with
     |zero=>rfl
     |succ j=>
      simp at hi;subst hi;rw [hd]at hp;cases hp;exact absurd (pz ..) (D q (ud (by simpa using hj)) d0 hq).2
    |succ i=>
     cases j with
     |zero=>
      simp at hj;subst hj;rw [hd]at hq;cases hq;exact absurd (pz ..) (D p (ud (by simpa using hi)) d0 hp).2
     |succ j=>rw [V i j p q d (by simpa using hi) (by simpa using hj) hp hq]
def ML:List Oper->List Ty->oz->oz
 |o::l,t::ts,G=>match o.dst with
  |some d=>(d,t)::ML l ts G
  |none=>ML l ts G
 |_,_,G=>G
def Jx(l:List Oper): ∀(ts:List Ty) (k:Nat) (t:Ty),ts.length=l.length->look (ML l ts G) k=some t->
  (∃(j:Nat) (o:Oper),l[j]? =some o/\o.dst=some k/\ts[j]? =some t)\/(look G k=some t/\ ∀o:Oper,o∈l->o.dst≠some k):=by
 induction l with
 |nil=>
  intro ts k t hl h;have:ts=[]:=uS (by simpa using hl);subst this;exact .inr ⟨h,fun _ h=>(by cases h)⟩
 |cons o l ih=>
  intro ts k t hl h
  cases ts with
  |nil=>simp at hl
  |cons u ts=>
   unfold ML at h;have hl' :ts.length=l.length:=by simpa using hl
   have lift:((∃(j:Nat) (p:Oper),l[j]? =some p/\p.dst=some k/\ts[j]? =some t)\/(look G k=some t/\ ∀p:Oper,p∈l->p.dst≠some k))->o.dst≠some k->
     (∃(j:Nat) (p:Oper),(o::l)[j]? =some p/\p.dst=some k/\(u::ts)[j]? =some t)\/(look G k=some t/\ ∀p:Oper,p∈o::l->p.dst≠some k):=by
    rintro(⟨j,p,D,V,Z⟩|⟨D,V⟩) Q_
    ·exact .inl ⟨j+1,p,by simpa using D,V,by simpa using Z⟩
    ·exact .inr ⟨D,fun p hp=>(iI.1 hp).elim (fun e=>by subst e;exact Q_) (V p)⟩
   cases hd:o.dst with
   |none=>
    rw [hd]at h;exact lift (ih ts k t hl' h) (by rw [hd];exact fun e=>by cases e)
   |some d=>
    rw [hd]at h;simp only at h;unfold look at h;by_cases K:Nat.beq d k=true
    ·rw [K]at h;have:=rm K;subst this;have e:u=t:=by simpa using h
     subst e;exact .inl ⟨0,o,rfl,hd,rfl⟩
    ·rw [B6]at K;rw [K]at h;refine lift (ih ts k t hl' h) ?_;rw [hd];intro e;have:d=k:=qr e;subst this;simp at K
abbrev TS:=List Nat×(List OI->Ty)
def TS.at(p:TS)(σ:Nat->OI):Ty:=p.2 (p.1.map σ)
def tc(t:Ty):TS:=([],fun _=>t)
def ta(i:Nat)(f:OI->Ty):TS:=([i],fun s=>f (s.headD rs))
def Uw(Ss:List ((Nat->OI)->List OE))(c:Nat)(σ:Nat->OI):List OE:=match Ss[c]? with|some f=>f σ|none=>[]
structure NS where
 slot:Nat
 ty:(Nat->OI)->Ty
 src:Option Nat
def NS.at(n:NS)(σ:Nat->OI):Nd:=⟨n.slot,n.ty σ,n.src⟩
def Za(G:oz)(ts:List TS)(n:NS):Prop:=
 match n.src with
 |some j=> ∀σ,(ts[j]?).map (fun p=>p.at σ)=some (n.ty σ)
 |none=> ∀σ,look G n.slot=some (n.ty σ)
def zL(G:oz)(ts:List TS):List NS->Prop
 |[]=>True
 |n::l=>Za G ts n/\zL G ts l
def zL.mem{ts:List TS}: ∀{l:List NS},zL G ts l-> ∀n∈l,Za G ts n
 |_::_,⟨h,_⟩,_,.head _=>h
 |_::_,⟨_,h⟩,_,.tail _ hm=>zL.mem h _ hm
def zI(l:List NS)(σ:Nat->OI):oz:=lO (l.map (·.at σ))
def WJ(ts:List TS)(σ:Nat->OI):List Ty:=ts.map fun p=>p.at σ
def TV(L:List Oper)(es:List Bool)(i:Nat)(p:TS):Bool:=p.1.all fun k=>(es[k]?).getD false&&(Nat.beq k i||qy L L.length i k)
def aan(L:List Oper)(es:List Bool)(i lo hi:Nat):Bool:=
 Nat.ble lo (jq es es.length)&&(List.range es.length).all fun k=> !((es[k]?).getD false)||((Nat.ble lo (jq es k)||qy L L.length i k)&&(Nat.blt (jq es k) hi||qy L L.length k i))
def DS(E:En)(G:oz)(L:List Oper)(ts:List TS)(Ss:List ((Nat->OI)->List OE))(es0:List Bool):Nat->Nat->List Oper->List Bool->Prop
 |_,_,[],_=>True
 |i,c,o::rest,false::es=>(∃(needs:List NS) (t:TS) (lo hi:Nat),ts[i]? =some t/\zL G ts needs/\(needs.all fun n=>ro L o i (n.at fun _=>rs))=true/\fU i o=true/\TV L es0 i t=true/\aan L es0 i lo hi=true/\o.dst.isSome=true/\
   ∀c σ,lo<=c->c<=hi->bF E (Uw Ss c σ) L.toArray (zI needs σ) o (t.at σ))/\DS E G L ts Ss es0 (i+1) c rest es
 |i,c,o::rest,true::es=>(∃(needs:List NS) (t:TS),ts[i]? =some t/\zL G ts needs/\(needs.all fun n=>ro L o i (n.at fun _=>rs))=true/\fU i o=true/\TV L es0 i t=true/\
   ∀σ,oy E L.toArray (Uw Ss c σ) (zI needs σ) o (fun x=>Uw Ss (c+1) (SA σ i x)) (fun x=>t.at (SA σ i x)))/\DS E G L ts Ss es0 (i+1) (c+1) rest es
 |_,_,_::_,[]=>False
variable{L:List Oper}{Ss:List ((Nat->OI)->List OE)}{lo:Int}{σ:Type}
def DS.get{ts:List TS}{es0:List Bool}: ∀(r:List Oper) (es:List Bool) (k c:Nat),DS E G L ts Ss es0 k c r es-> ∀(j:Nat) (o:Oper),r[j]? =some o->
    ∃e,es[j]? =some e/\ ∃(needs:List NS) (t:TS),ts[k+j]? =some t/\zL G ts needs/\(needs.all fun n=>ro L o (k+j) (n.at fun _=>rs))=true/\fU (k+j) o=true/\TV L es0 (k+j) t=true/\
      (match e with
       |false=>o.dst.isSome=true/\ ∃lo hi,aan L es0 (k+j) lo hi=true/\ ∀c σ,lo<=c->c<=hi->bF E (Uw Ss c σ) L.toArray (zI needs σ) o (t.at σ)
       |true=> ∀σ,oy E L.toArray (Uw Ss (c+jq es j) σ) (zI needs σ) o (fun x=>Uw Ss (c+jq es j+1) (SA σ (k+j) x)) (fun x=>t.at (SA σ (k+j) x))):=by
  intro r
  induction r with
  |nil=>intro es k c _ j o h;simp at h
  |cons p r ih=>
    intro es k c h j o ho
    cases es with
    |nil=>exact h.elim
    |cons e es=>
      cases e with
      |false=>
        obtain⟨⟨needs,t,lo,hi,g1,g2,g3,g4,g5,g6,g7,g8⟩,V⟩:=h
        cases j with
        |zero=>
          simp at ho;subst ho;exact⟨false,rfl,needs,t,g1,g2,g3,g4,g5,g7,lo,hi,g6,g8⟩
        |succ j=>
          obtain⟨e',g1,g2⟩:=ih es (k+1) _ V j o (by simpa using ho);refine⟨e',by simpa using g1,?_⟩;rw [show k+1+j=k+(j+1)from by omega]at g2;have e1:c+jq (false::es) (j+1)=c+jq es j:=by simp [jq]
          rw [e1];exact g2
      |true=>
        obtain⟨D,V⟩:=h
        cases j with
        |zero=>
          simp at ho;subst ho;exact⟨true,rfl,D⟩
        |succ j=>
          obtain⟨e',g1,g2⟩:=ih es (k+1) _ V j o (by simpa using ho);refine⟨e',by simpa using g1,?_⟩;rw [show k+1+j=k+(j+1)from by omega]at g2;have e1:c+jq (true::es) (j+1)=c+1+jq es j:=by simp [jq];omega
          rw [e1];exact g2
structure ZT(E:En)(G:oz)(l:List Oper)(ts:List TS)(Ss:List ((Nat->OI)->List OE))(es:List Bool)(done:Array Bool)(a:Act)(w:World)(S:SH)(σ:Nat->OI)(c:Nat):Prop where
 ext:ji E.B E.w0 E.S0 w S
 sat:kQ w S
 own:dR E.base E.B w S (Uw Ss c σ)
 size:a.tmps.size=E.N.n
 defers:a.defers=E.N.ds
 dsz:done.size=l.length
 down: ∀j o,l[j]? =some o->done.getD j false=true-> ∀e∈o.after,Region.binds .any e=true->done.getD e.on false=true
 old: ∀k t,look G k=some t->(∀j o,l[j]? =some o->done.getD j false=true->o.dst≠some k)->t.p S (a.tmps.getD k undef)
 new: ∀j o d p,l[j]? =some o->done.getD j false=true->o.dst=some d->ts[j]? =some p->(p.at σ).p S (a.tmps.getD d undef)
 deps: ∀j p,done.getD j false=true->ts[j]? =some p-> ∀k∈p.1,done.getD k false=true
 chain: ∀k,es[k]? =some true->(done.getD k false=true↔jq es k<c)
section
variable{ts:List TS}{es:List Bool}
def ZT.need{done:Array Bool}{σ:Nat->OI}{c:Nat}(h:ZT E G L ts Ss es done a w S σ c){i:Nat}(hi:L[i]? =some o)(hun:done.getD i true=false)(t_: ∀e∈o.after,Region.binds .any e=true->done.getD e.on false=true){needs:List NS}(D:zL G ts needs)(V:(needs.all fun n=>ro L o i (n.at fun _=>rs))=true):cH E.N S a (zI needs σ):=by
 have o_:i<done.size:=by rw [h.dsz];exact(oC.1 hi).1
 have hun' :done.getD i false=false:=by
  simp [o_]at hun ⊢;exact hun
 refine⟨h.size,h.defers,?_⟩;have key: ∀n∈needs,(n.ty σ).p S (a.tmps.getD n.slot undef):=by
  intro n hn;have hs:=o0.1 V n hn;have ho:=D.mem n hn;unfold ro NS.at at hs;unfold Za at ho
  cases hsrc:n.src with
  |some j=>
   rw [hsrc]at hs ho;simp only [jJ]at hs;obtain⟨hs1,hs2⟩:=hs
   cases hj:L[j]? with
   |none=>rw [hj]at hs1;cases hs1
   |some p=>
    rw [hj]at hs1
    cases hd:p.dst with
    |none=>simp only [hd]at hs1;cases hs1
    |some d=>
     simp only [hd]at hs1;have hd' :=rm hs1;subst hd';have e_:done.getD j false=true:=by
      unfold Fa at hs2;obtain⟨e,he0,K⟩:=zO.1 hs2;have he:e∈o.after:=by simpa using he0
      simp only [jJ]at K;have:=t_ e he K.2
      rwa [rm K.1]at this
     have hm:=ho σ
     cases Q:ts[j]? with
     |none=>rw [Q]at hm;simp at hm
     |some f=>
      rw [Q]at hm;have e:f.at σ=n.ty σ:=by simpa using hm
      rw [<-e];exact h.new j p n.slot f hj e_ hd Q
  |none=>
   rw [hsrc]at hs ho;refine h.old _ _ (ho σ) fun j p hj e_ hd=>?_;have:=o0.1 hs p (ud hj);simp only [hd,Nat.beq_refl,s6,yG]at this;unfold Fa at this;obtain⟨e,he0,K⟩:=zO.1 this;have he:e∈p.after:=by simpa using he0
   simp only [jJ]at K;have Z:=h.down j p hj e_ e he K.2;rw [rm K.1]at Z;rw [Z]at hun';cases hun'
 clear D V;intro k t hk;unfold zI at hk
 induction needs with
 |nil=>simp [lO,look]at hk
 |cons n needs ih=>
  simp only [vi]at hk;unfold lO look at hk;by_cases K:Nat.beq n.slot k=true
  ·have hb' :Nat.beq (n.at σ).slot k=true:=K;rw [hb']at hk;have:=rm K;subst this;have h9:some (n.at σ).ty=some t:=by simpa using hk
   have e:n.ty σ=t:=qr h9;rw [<-e];exact key n (pz ..)
  ·rw [B6]at K;have hb' :Nat.beq (n.at σ).slot k=false:=K;rw [hb']at hk;exact ih (fun m hm=>key m (pA _ hm)) hk
def ZT.step{done:Array Bool}{σ σ' :Nat->OI}{c c' :Nat}(h:ZT E G L ts Ss es done a w S σ c){i:Nat}{p0:TS}{C:Nat->Prop}(hi:L[i]? =some o)(hdN: ∀d,o.dst=some d->d<E.N.n)(hs2: ∀d,o.dst=some d-> ∀j p,L[j]? =some p->done.getD j false=true->p.dst=some d->i=j)(t_: ∀e∈o.after,Region.binds .any e=true->done.getD e.on false=true)(Y:ts[i]? =some p0)(hun:done.getD i true=false)(hdep: ∀k∈p0.1,k=i\/done.getD k false=true)(x_:ji C w S w' S')(hC: ∀b,C b->E.base<=b\/E.B b)(C_:kQ w' S')(hown:dR E.base E.B w' S' (Uw Ss c' σ'))(hσ: ∀k,k≠i->σ' k=σ k)(hv:(p0.at σ').p S' v)(hch: ∀k,es[k]? =some true->((done.setIfInBounds i true).getD k false=true↔jq es k<c')):
  ZT E G L ts Ss es (done.setIfInBounds i true) (a.put o.dst v) w' S' σ' c' :=by
 have o_:i<done.size:=by rw [h.dsz];exact(oC.1 hi).1
 have I_: ∀j,(done.setIfInBounds i true).getD j false=true->j=i\/done.getD j false=true:=fun j hj=>by
  by_cases hij:i=j
  ·exact .inl hij.symm
  ·rw [zC false hij]at hj;exact .inr hj
 have hseti:(done.setIfInBounds i true).getD i false=true:=by simp [o_]
 have hun' :done.getD i false=false:=by simp [o_]at hun ⊢;exact hun
 have hput: ∀k,(∀d,o.dst=some d->d≠k)->(a.put o.dst v).tmps.getD k undef=a.tmps.getD k undef:=fun k hk=>by
  cases hd:o.dst with
  |none=>rfl
  |some d=>
   have hda:d<a.tmps.size:=by rw [h.size];exact hdN d hd
   rw [xj hda,aZ (hk d hd)]
 refine⟨h.ext.step x_ hC,C_,hown,?_,?_,by simp [h.dsz],fun j p hj e_ e he K=>?_,fun k u hk G_=>?_,fun j p d' u hj e_ hd' hu=>?_,fun j u hj hu k hk=>?_,hch⟩
 ·cases o.dst with
  |none=>exact h.size
  |some d=>simp [Act.put,h.size]
 ·cases o.dst with
  |none=>exact h.defers
  |some d=>exact h.defers
 ·rcases I_ j e_ with rfl|hj'
  ·rw [hi]at hj;have:o=p:=by simpa using hj
   subst this;exact Bp (t_ e he K)
  ·exact Bp (h.down j p hj hj' e he K)
 ·rw [hput k fun d hd e=>G_ i o hi hseti (by rw [hd,e])];exact u.mono x_.keep (h.old k u hk fun j p hj e_=>G_ j p hj (Bp e_))
 ·by_cases hij:j=i
  ·subst hij;rw [hi]at hj;have:o=p:=by simpa using hj
   subst this;have hda:d' <a.tmps.size:=by rw [h.size];exact hdN d' hd'
   rw [hd',xj hda,bq rfl];rw [Y]at hu;have:p0=u:=by simpa using hu
   subst this;exact hv
  ·have hj' :=(I_ j e_).resolve_left hij;rw [hput d' fun d hd e=>by subst e;exact hij (hs2 d hd j p hj hj' hd').symm];have e1:u.at σ' =u.at σ:=congrArg u.2 (E3 fun k hk=>hσ k fun e=>by
     subst e;rw [h.deps j u hj' hu k hk]at hun';cases hun')
   rw [e1];exact Ty.mono _ x_.keep (h.new j p d' u hj hj' hd' hu)
 ·rcases I_ j hj with rfl|hj'
  ·rw [Y]at hu;have:p0=u:=by simpa using hu
   subst this;rcases hdep k hk with rfl|h'
   ·exact hseti
   ·exact Bp h'
  ·exact Bp (h.deps j u hj' hu k hk)
end
def LZ{l t:List Oper}{ts:List TS}{es:List Bool}(hsl:Ab E.N.n [] l=true)(hlen:ts.length=l.length)(hesl:es.length=l.length)(hd:DS E G (l++t) ts Ss es 0 0 l es)(hch:Qu (l++t) es=true)(Y:BM (l++t) l.length t.length=true)(hQ: ∀a w S σ,St E (Uw Ss (jq es es.length) σ) (ML l (WJ ts σ) G) a w S->wpListIn (fw E.r) 0 E.P (l++t).toArray hf t a w):
  ∀(fuel:Nat) (done:Array Bool) (a:Act) (w:World) (S:SH) (σ:Nat->OI) (c:Nat),oE done=fuel->(∀j,l.length<=j->done.getD j false=false)->c<=jq es es.length->ZT E G (l++t) ts Ss es done a w S σ c->wpAnyIn (fw E.r) 0 E.P .any (l++t).toArray hf fuel done a w:=by
 have hL1: ∀i o,i<l.length->(l++t)[i]? =some o->l[i]? =some o:=fun i o hi h=>by rwa [lT hi]at h
 have hL2: ∀i o,l[i]? =some o->(l++t)[i]? =some o:=fun i o h=>by rw [lT (oC.1 h).1];exact h
 have htail: ∀m o,l.length<=m->(l++t)[m]? =some o->zu (l++t) m=true/\fU m o=true:=fun m o hm ho=>by
  have hml:m<(l++t).length:=(oC.1 ho).1;rw [jY]at hml;unfold BM at Y;have:=o0.1 Y (m-l.length) (by simp;omega);rw [show l.length+(m-l.length)=m from by omega,ho]at this;simp only [jJ]at this;exact⟨this.1,this.2.1⟩
 have hget:=fun i o (hi:l[i]? =some o)=>DS.get l es 0 0 hd i o hi;have hedge: ∀i o,(l++t)[i]? =some o->fU i o=true:=fun i o hi=>by
  rcases mN i l.length with h|h
  ·obtain⟨_,_,_,_,_,_,_,h,_⟩:=hget i o (hL1 i o h hi);simpa using h
  ·exact(htail i o h hi).2
 obtain⟨hs1,hs2⟩:=Ff l [] hsl;have fin: ∀fuel done a w S σ c,oE done=fuel->(∀j,l.length<=j->done.getD j false=false)->c<=jq es es.length->ZT E G (l++t) ts Ss es done a w S σ c->(∀i,i<l.length->done.getD i false=true)->wpAnyIn (fw E.r) 0 E.P .any (l++t).toArray hf fuel done a w:=by
  intro fuel done a w S σ c hu A_ hcle h K_;have hcc:c=jq es es.length:=by
   rcases mN c (jq es es.length)with o_|hge
   ·obtain⟨i,D,V,Z⟩:=zw o_;have:=(h.chain i V).1 (K_ i (by omega));omega
   ·omega
  subst hcc;refine B8 (n:=l.length) (fun m o hm ho=>(htail m o hm ho).1) hedge t l.length done fuel a w (eX _) (by simp) h.dsz (fun j hj=>⟨fun hjd=>?_,fun o_=>K_ j o_⟩) hu
   (hQ a w S σ ⟨h.ext,h.sat,h.own,h.size,h.defers,fun j u hj=>?_⟩)
  ·rcases mN j l.length with h' |h'
   ·exact h'
   ·rw [A_ j h']at hjd;cases hjd
  ·rcases Jx l (WJ ts σ) j u (by unfold WJ;rw [BG];exact hlen) hj with⟨i,o,D,V,Z⟩|⟨D,V⟩
   ·unfold WJ at Z;rw [D9]at Z
    cases Q:ts[i]? with
    |none=>rw [Q]at Z;simp at Z
    |some f=>
     rw [Q]at Z;have e:f.at σ=u:=by simpa using Z
     rw [<-e];exact h.new i o j f (hL2 i o D) (K_ i (oC.1 D).1) V Q
   ·refine h.old j u D fun i o ho hdn=>?_;rcases mN i l.length with h' |h'
    ·exact V o (ud (hL1 i o h' ho))
    ·rw [A_ i h']at hdn;cases hdn
 have lower: ∀done a w S σ c i,(∀j,l.length<=j->done.getD j false=false)->ZT E G (l++t) ts Ss es done a w S σ c->i∈Region.ready .any (l++t).toArray done->l.length<=i-> ∀j,j<l.length->done.getD j false=true:=by
  intro done a w S σ c i A_ h hi hge j hj;obtain⟨hun,p,hp,t_⟩:=wi.1 hi;have hp' :(l++t)[i]? =some p:=by simpa using hp
  have hcov:=(htail i p hge hp').1;unfold zu at hcov;have hre:=o0.1 hcov j (by simp;omega);exact jk h.down _ i j (fun q hq e he K=>by
   have:q=p:=by rw [hp']at hq;simpa using hq.symm
   subst this;exact t_ e he K) hre
 have hchain: ∀i j,j<i->es[i]? =some true->es[j]? =some true->qy (l++t) (l++t).length i j=true:=fun i j hij D V=>by
  unfold Qu at hch;have hil:i<es.length:=(oC.1 D).1;have:=o0.1 (o0.1 hch i (by simpa using hil)) j (by simpa using hij);rw [D,V]at this;simpa using this
 intro fuel
 induction fuel with
 |zero=>
  intro done a w S σ c hu A_ hcle h;exact fin 0 done a w S σ c hu A_ hcle h fun i hi=>xd hu (by rw [h.dsz,jY];omega)
 |succ fuel ih=>
  intro done a w S σ c hu A_ hcle h;by_cases K_: ∀i,i<l.length->done.getD i false=true
  ·exact fin _ done a w S σ c hu A_ hcle h K_
  have hready0: ∀m i,i<m->i<l.length->Region.ready .any (l++t).toArray done=[]->done.getD i false=true:=by
   intro m
   induction m with
   |zero=>intro i h;omega
   |succ m ihm=>
    intro i him hil hr;have his:i<done.size:=by rw [h.dsz,jY];omega
    by_cases hdn:done.getD i true=true
    ·rw [<-rb his];exact hdn
    ·exfalso;obtain⟨o,ho⟩: ∃o,(l++t)[i]? =some o:=⟨l[i],hL2 i _ (qV hil)⟩;have hmem:i∈Region.ready .any (l++t).toArray done:=by
      rw [wi];refine⟨by simpa using hdn,o,by simpa using ho,fun e he K=>?_⟩;have:=hedge i o ho;unfold fU at this;have:=o0.1 this e (by simpa using he);simp only [K,s6,yG,xS]at this;exact ihm e.on (by omega) (by omega) hr
     rw [hr]at hmem;cases hmem
  refine⟨fun hr=>absurd (fun i hi=>hready0 (i+1) i (by omega) hi hr) K_,fun i hi=>?_⟩;have hil:i<l.length:=by
   rcases mN i l.length with h' |h'
   ·exact h'
   ·exact absurd (lower done a w S σ c i A_ h hi h') K_
  obtain⟨hun,o,ho,t_⟩:=wi.1 hi;have ho' :(l++t)[i]? =some o:=by simpa using ho
  have hol:=hL1 i o hil ho';obtain⟨e,he,needs,u,D,V,Z,_,h4,h5⟩:=hget i o hol;rw [oZ]at D Z h4;have hF:=h.need ho' hun t_ V Z;have his:i<done.size:=by rw [h.dsz,jY];omega
  have hun' :done.getD i false=false:=by rw [<-rb his];exact hun
  have hu' :oE (done.setIfInBounds i true)=fuel:=by have:=uf hun;omega
  have huq: ∀d,o.dst=some d-> ∀j p,(l++t)[j]? =some p->done.getD j false=true->p.dst=some d->i=j:=fun d hdd j p hj hjd hpd=>by
   rcases mN j l.length with h' |h'
   ·exact hs2 i j o p d hol (hL1 j p h' hj) hdd hpd
   ·rw [A_ j h']at hjd;cases hjd
  have hfree' : ∀j,l.length<=j->(done.setIfInBounds i true).getD j false=false:=fun j hj=>by
   rw [zC false (by omega)];exact A_ j hj
  have hbl:E.base<=w.heap.size:=h.ext.size;have hwaits: ∀q,(l++t)[i]? =some q-> ∀e∈q.after,Region.binds .any e=true->done.getD e.on false=true:=fun q hq e he K=>by
   have:q=o:=by rw [ho']at hq;simpa using hq.symm
   subst this;exact t_ e he K
  have hdpp: ∀k∈u.1,k=i\/done.getD k false=true:=fun k hk=>by
   have:=o0.1 h4 k hk;simp only [jJ,zR]at this;rcases this.2 with K|K
   ·exact .inl (rm K)
   ·exact .inr (jk h.down _ i k hwaits K)
  have hdNN: ∀d,o.dst=some d->d<E.N.n:=fun d hd=>(hs1 o (ud hol) d hd).1;unfold wpOpIn;rw [ho];show if _ then _ else _
  cases e with
  |false=>
   simp only at h5;obtain⟨hdS,lo,hi',hwin,h5⟩:=h5;rw [oZ]at hwin;obtain⟨d,hdd⟩:=Option.isSome_iff_exists.1 hdS;have hdN:=(hs1 o (ud hol) d hdd).1;unfold aan at hwin;rw [jJ]at hwin;obtain⟨hw1,hw2⟩:=hwin;have hw1' :=rx hw1;have hwk: ∀k,es[k]? =some true->(Nat.ble lo (jq es k)=true\/qy (l++t) (l++t).length i k=true)/\(Nat.blt (jq es k) hi' =true\/qy (l++t) (l++t).length k i=true):=fun k hk=>by
    have hkl:k<es.length:=(oC.1 hk).1;have:=o0.1 hw2 k (by simpa using hkl);rw [hk]at this;simpa using this
   have hlo:lo<=c:=by
    rcases mN c lo with o_|hge
    ·exfalso;obtain⟨k,hk1,hk2,hk3⟩:=zw (es:=es) (c:=c) (k:=es.length) (by omega);rcases(hwk k hk2).1 with K|K
     ·have:=rx K;omega
     ·have:=(h.chain k hk2).1 (jk h.down _ i k hwaits K);omega
    ·exact hge
   have hhi:c<=hi' :=by
    rcases mN hi' c with o_|hge
    ·exfalso;obtain⟨k,hk1,hk2,hk3⟩:=zw (es:=es) (c:=hi') (k:=es.length) (by omega);rcases(hwk k hk2).2 with K|K
     ·simp only [xS]at K;omega
     ·have hkd:done.getD k false=true:=(h.chain k hk2).2 (by omega);have:=jk h.down _ k i (fun q hq e he K=>h.down k q hq hkd e he K) K;rw [this]at hun';cases hun'
    ·exact hge
   have h6:=h5 c σ hlo hhi a w S h.sat h.own hF;have hch' : ∀k,es[k]? =some true->((done.setIfInBounds i true).getD k false=true↔jq es k<c):=fun k hk=>by
    have Q_:i≠k:=fun e=>by subst e;rw [he]at hk;cases hk
    rw [zC false Q_];exact h.chain k hk
   by_cases hw:Region.wanted o (yielded (l++t).toArray a.tmps)=true
   ·rw [bq hw]at h6 ⊢;refine n8 (fun a' w' ⟨v,S',ha,I,hs,hv⟩=>?_) h6;subst ha;exact ih _ _ _ S' _ c hu' hfree' hcle (h.step ho' hdNN huq t_ D hun hdpp I (fun _ K=>K.elim) hs (h.own.ext0 I) (fun _ _=>rfl) hv hch')
   ·rw [aZ hw]at h6 ⊢;exact⟨fun _ _=>trivial,ih _ _ _ S _ c hu' hfree' hcle (h.step ho' hdNN huq t_ D hun hdpp (ji.refl sq _ _) (fun _ K=>K.elim) h.sat h.own (fun _ _=>rfl) h6 hch')⟩
  |true=>
   simp only [oZ]at h5;have hca:jq es i=c:=by
    have hn: ¬jq es i<c:=fun o_=>by rw [(h.chain i he).2 o_]at hun';cases hun'
    rcases mN c (jq es i)with o_|hge
    ·exfalso;obtain⟨k,hk1,hk2,hk3⟩:=zw o_;have hkd:done.getD k false=true:=jk h.down _ i k hwaits (hchain i k hk1 he hk2);have:=(h.chain k hk2).1 hkd;omega
    ·omega
   subst hca;have h6:=h5 σ a w S h.sat h.own hF hbl;have hch' : ∀k,es[k]? =some true->((done.setIfInBounds i true).getD k false=true↔jq es k<jq es i+1):=fun k hk=>by
    by_cases hik:i=k
    ·subst hik;constructor
     ·intro _;omega
     ·intro _;simp [his]
    ·rw [zC false hik,h.chain k hk];constructor
     ·intro h;omega
     ·intro o_;rcases mN i k with hlk|hlk
      ·have:=H3 hlk he;omega
      ·exact H3 (by omega) hk
   have hcle' :jq es i+1<=jq es es.length:=H3 (by omega) he;by_cases hw:Region.wanted o (yielded (l++t).toArray a.tmps)=true
   ·rw [bq hw]at h6 ⊢;refine n8 (fun a' w' ⟨v,S',x,ha,I,hs,hown,hv⟩=>?_) h6;subst ha;exact ih _ _ _ S' _ _ hu' hfree' hcle' (h.step ho' hdNN huq t_ D hun hdpp I (fun b ⟨f,Q,K⟩=>(dR.mem h.own f Q).2 b K) hs hown (fun k hk=>Kg σ x hk) hv hch')
   ·rw [aZ hw]at h6 ⊢;obtain⟨x,hown,hv⟩:=h6;exact⟨fun _ _=>trivial,ih _ _ _ S _ _ hu' hfree' hcle' (h.step ho' hdNN huq t_ D hun hdpp (ji.refl sq _ _) (fun _ K=>K.elim) h.sat hown (fun k hk=>Kg σ x hk) hv hch')⟩
def lw{id:Nat}(m:Nat)(ts:List TS)(es:List Bool)(Ss:List ((Nat->OI)->List OE))(hO:Ss[0]? =some fun _=>O)(hm:E.P.follows .mixedOrders=true)(hsl:Ab E.N.n [] (L.take m)=true)(hlen:ts.length=(L.take m).length)(hesl:es.length=(L.take m).length)(hch:Qu L es=true)(Y:BM L (L.take m).length (L.drop m).length=true)(hd:DS E G L ts Ss es 0 0 (L.take m) es)(k: ∀σ:Nat->OI,RG E L.toArray hf (L.drop m) (Uw Ss (jq es es.length) σ) (ML (L.take m) (WJ ts σ) G)):CG E hf (.region id L.toArray true) O G:=fun a w S st=>by
 have hL:L=L.take m++L.drop m:=(vn m L).symm;generalize L.take m=l at hL hsl hlen hesl Y hd k;generalize L.drop m=t at hL Y k;subst hL;refine wpIn_region_any hm ?_;obtain⟨he,hs⟩:=AU (w:=w) st.sat;have hO0:Uw Ss 0 (fun _=>rs)=O:=by unfold Uw;rw [hO]
 refine LZ hsl hlen hesl hd hch Y (fun a w S σ st=>k σ a w S st) _ _ _ _ S (fun _=>rs) 0 ?_ (fun j _=>?_) (kY _)
  ⟨st.ext.step0 he,hs,by rw [hO0];exact st.own.ext0 he,st.facts.size,st.facts.defers,by simp,fun j o hj e_=>?_,fun k t hk _=>st.facts.h_ k t hk,fun j o d t hj e_=>?_,fun j p e_=>?_,fun k _=>⟨fun e_=>?_,fun h=>(by omega)⟩⟩
 ·unfold oE;rw [QT,QP];simp
 ·simp [B7];split<;>rfl
 ·simp [B7]at e_;split at e_<;>simp at e_
 ·simp [B7]at e_;split at e_<;>simp at e_
 ·simp [B7]at e_;split at e_<;>simp at e_
 ·simp [B7]at e_;split at e_<;>simp at e_
def vI{p:Nat->(Nat->OI)->Prop}{lo:Nat}(h: ∀σ,p lo σ): ∀c σ,lo<=c->c<=lo->p c σ:=fun c σ D V=>by
 have:c=lo:=by omega
 subst this;exact h σ
def Ee{p:Nat->(Nat->OI)->Prop}{lo hi:Nat}(h: ∀σ,p lo σ)(k: ∀c σ,lo+1<=c->c<=hi->p c σ): ∀c σ,lo<=c->c<=hi->p c σ:=fun c σ D V=>by
 by_cases e:c=lo
 ·subst e;exact h σ
 ·exact k c σ (by omega) V
variable{post:OI->List OE}
def HV{op:Op}{ty:TypeId}(hnd: ∀c,op≠ .defer c)(h: ∀a w S,kQ w S->dR E.base E.B w S O->cH E.N S a G->E.base<=w.heap.size-> ∃w' S' x,(execOp a.eval ⟨none,op,ty,pos,after,g⟩).run E.P w= .ok .skip w' /\ji (Cv O) w S w' S' /\kQ w' S' /\dR E.base E.B w' S' (post x)):
  EffOK E O G ⟨none,op,ty,pos,after,g⟩ post (fun _=>CZ):=fun a w S hs ho Q K=>by
 obtain⟨w',S',x,D,V,Z,h4⟩:=h a w S hs ho Q K;refine⟨hnd,?_⟩;rw [D];exact⟨undef,S',x,rfl,V,Z,h4,trivial⟩
abbrev HL:=List (Nat×Value)
def yn:HL->Nat->Option Value
 |[],_=>none
 |p::hs,o=>bif Nat.beq p.1 o then some p.2 else yn hs o
def ym: ∀{hs:HL} {o:Nat} {v:Value},yn hs o=some v->(o,v)∈hs
 |[],_,_,h=>by cases h
 |p::hs,o,v,h=>by
  unfold yn at h;by_cases K:Nat.beq p.1 o=true
  ·rw [K]at h;have e1:=rm K;have e2:p.2=v:=qr h;subst e1 e2;exact pz ..
  ·rw [B6]at K;rw [K]at h;exact pA _ (ym h)
def rH{α:Type}(r:Rp α)(hs:HL):Rp α where
 sz:=r.sz
 agg:=r.agg
 rc:=fun S cs x=>r.rc S cs x/\ ∀p∈hs,cs[p.1]? =some p.2
 mono:=fun h k=>⟨r.mono h k.1,k.2⟩
 len:=fun k=>r.len k.1
 one:=fun k=>r.one k.1
 sc:=r.sc
def jD{hs:HL}{get:α->β}(h:mT r off q get):mT (rH r hs) off q get:=fun S cs x k=>h S cs x k.1
def TY(h:cs[off]? =some v):(cs.drop off).take 1=[v]:=by
 have o_:=(oC.1 h).1;rw [yK o_,(oC.1 h).2];rfl
def ae8{hs:HL}(h:yn hs off=some v):mT (rH r hs) off rV (fun _=>v):=fun S cs x k=>by
 have D:=k.2 _ (ym h);exact⟨TY D,r.one k.1 v (ud D)⟩
def HZ(z:List Value):HL->Prop
 |[]=>True
 |p::hs=>z[p.1]? =some p.2/\HZ z hs
def HZ.all: ∀{hs:HL},HZ z hs-> ∀p∈hs,z[p.1]? =some p.2
 |_::_,⟨h,_⟩,_,.head _=>h
 |_::_,⟨_,h⟩,_,.tail _ hm=>HZ.all h _ hm
def zH{x:α}{hs:HL}(h: ∀S,r.rc S z x)(k:HZ z hs): ∀S,(rH r hs).rc S z x:=fun S=>⟨h S,k.all⟩
def aaM(hs:HL)(off sz:Nat):Bool:=hs.all fun p=>Nat.blt p.1 off||Nat.ble (off+sz) p.1
def HOK(hs:HL)(off sz:Nat)(v:Option Value):HL->Prop
 |[]=>True
 |p::l=>((v=some p.2/\p.1=off/\sz=1)\/(yn hs p.1=some p.2/\(Nat.blt p.1 off||Nat.ble (off+sz) p.1)=true))/\HOK hs off sz v l
def HOK.all{hs:HL}{v:Option Value}: ∀{l:HL},HOK hs off sz v l-> ∀p∈l,(v=some p.2/\p.1=off/\sz=1)\/(yn hs p.1=some p.2/\(Nat.blt p.1 off||Nat.ble (off+sz) p.1)=true)
 |_::_,⟨h,_⟩,_,.head _=>h
 |_::_,⟨_,h⟩,_,.tail _ hm=>HOK.all h _ hm
def xy{ds:List Value}(hl:ds.length=sz)(hoff:off+sz<=cs.length)(h:(Nat.blt k off||Nat.ble (off+sz) k)=true):(cs.take off++ds++cs.drop (off+sz))[k]? =cs[k]? :=by
 simp only [zR,xS,Nat.ble_eq]at h;have Y:(cs.take off).length=off:=by simp;omega
 rcases h with h|h
 ·rw [lT (by simp;omega),lT (by omega),zT h]
 ·rw [sE (by simp;omega),xT];congr 1;simp only [jY,Y,hl];omega
def Wo{ds:List Value}(hd:ds=[v])(hoff:off+1<=cs.length):(cs.take off++ds++cs.drop (off+1))[off]? =some v:=by
 subst hd;have Y:(cs.take off).length=off:=by simp;omega
 rw [lT (by simp;omega),sE (by omega),Y,pX];rfl
def Ac{hs hs' :HL}{x:α}(h:gn r off q set)(hk:HOK hs off q.sz none hs')(hoff:Nat.ble (off+q.sz) r.sz=true):rP (rH r hs) (rH r hs') off q x y (set x y):=fun S cs ds D V=>by
 refine⟨h S cs x ds y D.1 V,fun p hp=>?_⟩;rcases hk.all p hp with⟨e,_⟩|⟨g1,g2⟩
 ·cases e
 ·have hl:=r.len D.1;rw [xy (q.len V) (by have:=rx hoff;omega) g2];exact D.2 _ (ym g1)
def Ra{hs:HL}(h:gn r off q set)(hk:aaM hs off q.sz=true)(hoff:Nat.ble (off+q.sz) r.sz=true):gn (rH r hs) off q set:=fun S cs x ds y D V=>by
 refine⟨h S cs x ds y D.1 V,fun p hp=>?_⟩;have hl:=r.len D.1;rw [xy (q.len V) (by have:=rx hoff;omega) (o0.1 hk p hp)];exact D.2 _ hp
def rU:Rp Unit where
 sz:=1
 agg:=false
 rc:=fun _ cs _=> ∃v,cs=[v]/\v.oneCell' =true
 mono:=fun _ h=>h
 len:=fun⟨v,h,_⟩=>by rw [h];rfl
 one:=fun⟨v,h,k⟩ c hc=>by rw [h]at hc;simp at hc;subst hc;exact k
 sc:=fun _=>rfl
def hU(h:aG N G x (tV u))(ho:u.oneCell' =true):aG N G x (tD rU ()):=fun S a Q=>by
 have D:a.eval x=u:=h S a Q;rw [D];exact⟨[u],rfl,u,rfl,ho⟩
section
section
variable{ty:TypeId}
def mD{op:Op}{t:OI->Ty}(h:EffOK E O G ⟨none,op,ty,pos,after,none⟩ post t)(k: ∀x,RG E ops hf rest (post x) G):RG E ops hf (⟨none,op,ty,pos,after,none⟩::rest) O G:= .of rfl fun a w S st=>
 qk (fun a' w' ⟨v,S',x,ha,I,hs,ho,hv⟩=>by
  subst ha;exact k x _ _ S' ⟨st.ext.step I fun b ⟨f,Q,K⟩=>(dR.mem st.own f Q).2 b K,hs,ho,st.facts.mono I.keep⟩) (h a w S st.sat st.own st.facts st.H_)
def gD{x:α}{p v:Operand}(ti:TI E.P U sz bytes agg z)(k_:q.sz=sz)(I_:rP r r' off q x y x')(hoff:Nat.ble (off+q.sz) r.sz=true)(hp:aG E.N G p (tV (an b off)))(hv:aG E.N G v (tD q y)):EffOK E (bx r T b x::O) G ⟨none,.store U p v,ty,pos,after,g⟩ (fun _=>bx r' T b x' ::O) (fun _=>CZ):=HV (fun _ h=>(by cases h)) fun a w S hs ho Q K=>by
 have D:a.eval p=an b off:=hp S a Q;obtain⟨ds,V,Z⟩:=hv S a Q;obtain⟨⟨G_,cur,h5,h6⟩,_⟩:=ho.1;have hl:=r.len h6;have hoff' :=rx hoff;obtain⟨w',hr,e1,e2,e3,e4,e5,e6⟩:=nV ti k_ Z h5 (off:=off) (by simp at hl;omega);have u_:(execOp a.eval ⟨none,.store U p v,ty,pos,after,g⟩).run E.P w= .ok .skip w' :=by
  simp [execOp,D,V,Instr.storeAt,an,Instr.sureAddr,hr]
 obtain⟨g1,g2,g3⟩:=q8 (O:=O) hs (bx r T b x) (bx r' T b x') ho (fun _=>wh) (fun _=>wh) ⟨e1,e2,e3,e4.1,e4.2⟩ e6 ⟨G_,_,e5,by simpa using I_ S _ _ h6 Z⟩ G_;exact⟨w',S,rs,u_,g1.more fun k hk=>⟨_,pz ..,hk⟩,g2,g3⟩
def sx{hs hs' :HL}{x:α}{p v:Operand}(ti:TI E.P U 1 bytes false z)(k_:q.sz=1)(hag:q.agg=false)(I_:gn r off q set)(hoff:Nat.ble (off+1) r.sz=true)(hk:HOK hs off 1 (some u) hs')(hp:aG E.N G p (tV (an b off)))(hv:aG E.N G v (tD q y))(hu:aG E.N G v (tV u)):EffOK E (bx (rH r hs) T b x::O) G ⟨none,.store U p v,ty,pos,after,g⟩ (fun _=>bx (rH r hs') T b (set x y)::O) (fun _=>CZ):=HV (fun _ h=>(by cases h)) fun a w S C_ ho Q K=>by
 have D:a.eval p=an b off:=hp S a Q;obtain⟨ds,V,Z⟩:=hv S a Q;have hu' :a.eval v=u:=hu S a Q;obtain⟨⟨G_,cur,h5,h6⟩,_⟩:=ho.1;have hl:=r.len h6.1;have hoff' :=rx hoff;have hdl:=q.len Z;have hds:ds=[u]:=by
  obtain⟨d,hd⟩:=List.length_eq_one_iff.1 (by rw [hdl,k_]:ds.length=1);subst hd;have e1:q.val [d]=d:=by simp [Rp.val,hag]
  rw [V,e1]at hu';rw [hu']
 obtain⟨w',hr,e1,e2,e3,e4,e5,e6⟩:=nV ti k_ Z h5 (off:=off) (by simp at hl;omega);have u_:(execOp a.eval ⟨none,.store U p v,ty,pos,after,g⟩).run E.P w= .ok .skip w' :=by
  simp [execOp,D,V,Instr.storeAt,an,Instr.sureAddr,hr]
 rw [k_]at e5;have hnew:(rH r hs').rc S (cur.toList.take off++ds++cur.toList.drop (off+1)) (set x y):=by
  have h7:=I_ S _ _ _ _ h6.1 Z;rw [k_]at h7;refine⟨h7,fun p hp=>?_⟩;rcases hk.all p hp with⟨f1,f2,_⟩|⟨f1,f2⟩
  ·rw [f2];exact Wo (by rw [hds,qr f1]) (by omega)
  ·rw [xy (by rw [hdl,k_]) (by omega) f2];exact h6.2 _ (ym f1)
 obtain⟨g1,g2,g3⟩:=q8 (O:=O) C_ (bx (rH r hs) T b x) (bx (rH r hs') T b (set x y)) ho (fun _=>wh) (fun _=>wh) ⟨e1,e2,e3,e4.1,e4.2⟩ e6 ⟨G_,_,e5,by simpa using hnew⟩ G_;exact⟨w',S,rs,u_,g1.more fun k hk=>⟨_,pz ..,hk⟩,g2,g3⟩
end
section
variable{ty:TypeId}
def qQ{hs:HL}{x:α}{p:Operand}(ti:TI E.P U 1 bytes false z)(hk:yn hs off=some u)(hm:bx (rH r hs) T b x∈O)(hp:aG E.N G p (tV (an b off))):
  ck E O G ⟨dst,.load U p,ty,pos,after,g⟩ (tV u):=(ay (q:=rV) ti rfl rfl (ae8 hk) hm hp).imp fun _ _ h=>(yS.1 h).1
def fi{q:Rp α}{r:Rp β}{hs:HL}{x:β}{h2:TypeId}{p:Operand}{l:Option Nat}(ti:TI E.P U 1 bytes false z)(hk:yn hs off=some (ak l cap xs.length))(hm:bx (rH r hs) T b x∈O)(hm2:dM q h2 l cap xs∈O)(hp:aG E.N G p (tV (an b off))):
  ck E O G ⟨dst,.load U p,ty,pos,after,g⟩ (tO q l cap xs):=fun a w S hs' ho Q=>
 qk (fun _ _ ⟨v,S',D,V,Z,h4⟩=>⟨v,S',D,V,Z,h4,by
  have h5:v=ak l cap xs.length:=h4;rw [h5];exact pY (((ho.ext0 V).mem _ hm2).1)⟩) (qQ (g:=g) (ty:=ty) (pos:=pos) (after:=after) (dst:=dst) ti hk hm hp a w S hs' ho Q)
def Rs{t:Ty}(D: ∀S v,t.p S v->v.oneCell' =true)(I:aG E.N G x t):ck E O G ⟨dst,.box T x,ty,pos,after,g⟩ (aY (rT t) ()):=
 PE (fun S a Q=>tRT.2 ⟨D _ _ (I S a Q),I S a Q⟩)
end
end
variable{O' :List OE}
def EffOK.perm{t:OI->Ty}(h:EffOK E O' G o post t)(k: ∀{w S},dR E.base E.B w S O->dR E.base E.B w S O')(m: ∀f∈O',f∈O):EffOK E O G o post t:=fun a w S hs ho Q K=>
 qk (fun _ _ ⟨v,S',x,D,V,Z,h4,h5⟩=>⟨v,S',x,D,V.more fun _ ⟨f,Q,hk⟩=>⟨f,m f Q,hk⟩,Z,h4,h5⟩) (h a w S hs (k ho) Q K)
variable{x0 x5:OE}
namespace EffOK
section
variable{t:OI->Ty}
def fr1(h:EffOK E (x1::x0::O) G o post t):EffOK E (x0::x1::O) G o post t:=h.perm (fun hw=>dR.swap hw) (fun f Q=>by simp only [iI]at Q ⊢;rcases Q with h|h|h<;>simp [h])
def fr2(h:EffOK E (x2::x0::x1::O) G o post t):EffOK E (x0::x1::x2::O) G o post t:=h.perm (fun hw=>uB hw) (fun f Q=>by simp only [iI]at Q ⊢;rcases Q with h|h|h|h<;>simp [h])
def fr3(h:EffOK E (x3::x0::x1::x2::O) G o post t):EffOK E (x0::x1::x2::x3::O) G o post t:=h.perm (fun hw=>wR hw) (fun f Q=>by simp only [iI]at Q ⊢;rcases Q with h|h|h|h|h<;>simp [h])
def fr4(h:EffOK E (x4::x0::x1::x2::x3::O) G o post t):EffOK E (x0::x1::x2::x3::x4::O) G o post t:=h.perm (fun hw=>wQ hw) (fun f Q=>by simp only [iI]at Q ⊢;rcases Q with h|h|h|h|h|h<;>simp [h])
def fr5(h:EffOK E (x5::x0::x1::x2::x3::x4::O) G o post t):EffOK E (x0::x1::x2::x3::x4::x5::O) G o post t:=h.perm (fun hw=>wP hw) (fun f Q=>by simp only [iI]at Q ⊢;rcases Q with h|h|h|h|h|h|h<;>simp [h])
def fr6{x6:OE}(h:EffOK E (x6::x0::x1::x2::x3::x4::x5::O) G o post t):EffOK E (x0::x1::x2::x3::x4::x5::x6::O) G o post t:=h.perm (fun hw=>zz hw) (fun f Q=>by simp only [iI]at Q ⊢;rcases Q with h|h|h|h|h|h|h|h<;>simp [h])
def fr7{x6 x7:OE}(h:EffOK E (x7::x0::x1::x2::x3::x4::x5::x6::O) G o post t):EffOK E (x0::x1::x2::x3::x4::x5::x6::x7::O) G o post t:=h.perm (fun hw=>zy hw) (fun f Q=>by simp only [iI]at Q ⊢;rcases Q with h|h|h|h|h|h|h|h|h<;>simp [h])
def post_imp{post' :OI->List OE}(h:EffOK E O G o post t)(k: ∀{w S x},dR E.base E.B w S (post x)->dR E.base E.B w S (post' x)):EffOK E O G o post' t:=fun a w S hs ho Q K=>
 qk (fun _ _ ⟨v,S',x,D,V,Z,h4,h5⟩=>⟨v,S',x,D,V,Z,k h4,h5⟩) (h a w S hs ho Q K)
end
end EffOK
variable{ats:Array TypeId}{mm:Bool}
section
variable{ty:TypeId}
def Qp{zs:List α}{y v:α}{i:Int}{p:Operand}(ti:TI E.P U sz bytes agg z)(k_:r.sz=sz)(hy:dm xs i=some y)(hz:xs.set i.toNat v=zs)(hp:aG E.N G p (tV (an b (i.toNat*r.sz))))(hv:aG E.N G x (tD r v)):EffOK E (bx (sj r n) T b xs::O) G ⟨none,.store U p x,ty,pos,after,g⟩ (fun _=>bx (sj r n) T b zs::O) (fun _=>CZ):=HV (fun _ h=>(by cases h)) fun a w S C_ hown Q hbase=>by
 subst hz;have D:a.eval p=an b (i.toNat*r.sz):=hp S a Q;obtain⟨ds,V,Z⟩:=hv S a Q;obtain⟨⟨G_,cur,h5,h6⟩,_⟩:=hown.1;obtain⟨h0,hy'⟩:=ou hy;have o_:i.toNat<xs.length:=(oC.1 hy').1;have hl:=pM h6.2;simp only [GH]at hl;have hmul:i.toNat*r.sz+r.sz<=xs.length*r.sz:=by rw [<-Nat.succ_mul];exact FW _ o_
 obtain⟨w',hr,e1,e2,e3,e4,e5,e6⟩:=nV ti k_ Z h5 (off:=i.toNat*r.sz) (by omega);have u_:(execOp a.eval ⟨none,.store U p x,ty,pos,after,g⟩).run E.P w= .ok .skip w' :=by
  simp [execOp,D,V,Instr.storeAt,an,Instr.sureAddr,hr]
 obtain⟨g1,g2,g3⟩:=q8 (O:=O) C_ (bx (sj r n) T b xs) (bx (sj r n) T b (xs.set i.toNat v)) hown (fun _=>wh) (fun _=>wh) ⟨e1,e2,e3,e4.1,e4.2⟩ e6 ⟨G_,_,e5,by rw [E1];exact h6.1,KC Z h6.2 o_⟩ G_;exact⟨w',S,rs,u_,g1.more fun c hc=>⟨_,pz ..,hc⟩,g2,g3⟩
section
def km{x:α}(ti:TI E.P T sz bytes agg z)(I: ∀S,r.rc S z x):
  EffOK E O G ⟨some d,.alloc T,ty,pos,after,g⟩ (fun i=>bx r T (i.h 0).2 x::O) (fun i=>tV (an (i.h 0).2 0)):=fun a w S hs ho Q K=>by
 obtain⟨zv,hzr,hzc⟩:=ti.zero w;obtain⟨he,hs',G_⟩:=gb (w:=w) (.cells z.toArray T (0,0)) hs;have u_:(execOp a.eval ⟨some d,.alloc T,ty,pos,after,g⟩).run E.P w= .ok (.value (an w.heap.size 0)) (w.alloc (.cells z.toArray T (0,0))):=by
  simp [execOp,Instr.alloc,hzr,newVar,newRow,hzc,an]
 refine⟨fun c h=>(by cases h),?_⟩;rw [u_];exact⟨_,S,oi none w.heap.size,rfl,he.more fun _ K=>K.elim,hs',rR ho he (e:=bx r T w.heap.size x) ⟨G_,z.toArray,xU w _,by simpa using I S⟩ (fun b K=>BD K.symm) K,rfl⟩
def JQ{f:FuncId}{xs:List Operand}(hc:af E.P f=true)(hs:mi E.P f ts false r T ys)(I:k5 E.N G xs ts):
  EffOK E O G ⟨some d,.call ⟨.value (.func f),xs.toArray,ats⟩,ty,pos,after,g⟩ (fun i=>fa r T (i.h 0).1 (i.h 0).2 ys::O) (fun i=>tV (ak (i.h 0).1 (i.h 0).2 ys.length)):=TR (mm:=false) hc hs I (fun _ _ _ _ _=>rfl)
end
section
def jh{l:Option Nat}{o i:Nat}{y:α}{j:Int}{p:Operand}(Q:cb E.P T i=some (off,sz))(h0:Nat.beq sz 0=false)(hm:nU mm r U l cap xs∈O)(hy:dm xs j=some y)(hp:aG E.N G p (tV (qv l o)))(he:o+off=n):
  ck E O G ⟨dst,.fieldAddr T p i,ty,pos,after,g⟩ (tV (qv l n)):=by
 subst he;exact Ix Q h0 hm hy hp
def aP(I:aG E.N G x (tV (an b off))):ck E O G ⟨dst,.nilCheck x,ty,pos,after,g⟩ (tV (an b off)):= .of_pure fun a w S _ _ Q=>by
 have D:a.eval x=an b off:=I S a Q;exact⟨an b off,by simp [execOp,D,an],rfl⟩
def Di{y:α}(I:aG E.N G x (aY r y)):ck E O G ⟨dst,.nilCheck x,ty,pos,after,g⟩ (aY r y):= .of_pure fun a w S _ _ Q=>by
 have h0:=I S a Q;obtain⟨b,off,c,U,fr,D,V,Z⟩:=h0;exact⟨_,by simp [execOp,D],b,off,c,U,fr,rfl,V,Z⟩
def wz{p:Operand}(ti:TI E.P U 1 bytes false z)(hm:bx rV T b u∈O)(hp:aG E.N G p (tV (an b 0))):
  ck E O G ⟨dst,.load U p,ty,pos,after,g⟩ (tV u):=(ay (q:=rV) (get:=fun x=>x) ti rfl rfl bC hm hp).imp fun _ _ h=>(yS.1 h).1
def kg{t:Ty}{p:Operand}(ti:TI E.P U 1 bytes false z)(hp:aG E.N G p (aY (rT t) ())):ck E O G ⟨dst,.load U p,ty,pos,after,g⟩ t:=Dj ti hp
end
def yz(h:O=O')(k:RG E ops hf rest O' G):RG E ops hf rest O G:=by subst h;exact k
def WH(h:O=O')(k:AT E hf e O' G):AT E hf e O G:=by subst h;exact k
def hW(h:aG N G x (tV u))(ho:u.oneCell' =true):aG N G x (tD rV u):=fun S a Q=>yS.2 ⟨h S a Q,ho⟩
end
def Md{l:Option Nat}{t' e' :TypeId}(Y:P.underlying t' =some (.slice e'))(h:AP mm r U l cap xs w S)(hs:fz xs lo (xs.length:Int)=some ys):
  ∃news,Src P r.sz t' (o4 r.sz l cap lo.toNat ys.length) ys.length news w/\vq r S news ys:=by
 obtain⟨cells,D,V,_⟩:=h;obtain⟨lo',m,rfl,hm,Z,h4,rfl⟩:=iQ hs;have hm' :m=xs.length:=by omega
 subst hm';rw [BH,yJ]
 cases l with
 |none=>
  have I:xs=[]:=uS D.1;subst I;exact⟨[],by simpa [o4] using Src.ofNil w Y 0,by simp [vq]⟩
 |some b=>
  obtain⟨cur,g1,g2,g3,g4,g5⟩:=D;have hlen:(xs.drop lo').length=xs.length-lo' :=by simp
  have hcl:=pM V;have hsp:xs=xs.take lo' ++xs.drop lo' :=(vn lo' xs).symm;have htl:(xs.take lo').length=lo' :=by simp;omega
  have hr:vq r S (cells.drop (lo' *r.sz)) (xs.drop lo'):=by
   rw [hsp]at V;have:=(sL V).2
   rwa [htl]at this
  have hmul:lo' *r.sz<=xs.length*r.sz:=FW _ Z;refine⟨cells.drop (lo' *r.sz),?_,hr⟩;unfold o4;refine Src.ofSlice w Y _ _ _ _ (pM hr) (fun j u hu=>?_) (C9 hr);by_cases hc:cap=lo'
  ·have:xs.drop lo' =[]:=Ec (by omega);rw [this]at hr;have hr' :cells.drop (lo' *r.sz)=[]:=hr;rw [hr']at hu;simp at hu
  ·simp only [hc,lS];rw [kL,Bk g1];rw [xT,<-g5]at hu;have hj:lo' *r.sz+j<xs.length*r.sz:=by
    have:=(oC.1 hu).1;simp at this;omega
   rw [zT hj]at hu;simpa using hu
section
variable{ty:TypeId}
def Uc{l:Option Nat}{yt e:TypeId}(Y:E.P.underlying t=some (.slice e))(hm:nU mm r U l cap xs∈O)(hs:fz xs lo (xs.length:Int)=some ys)(I:aG E.N G x (tV (o4 r.sz l cap lo.toNat ys.length)))(hd:Nat.blt d E.N.n=true)(k: ∀b,(b=true->ys=[])->RG E ops hf rest O ((d,tD rB b)::G)):RG E ops hf (⟨some d,.binOp .eql t x (.const (.slice none 0 0)) yt,ty,pos,after,none⟩::rest) O G:= .of rfl fun a w S st=>by
 have D:a.eval x=o4 r.sz l cap lo.toNat ys.length:=I S a st.facts;obtain⟨⟨cells,hraw,_⟩,_⟩:=st.own.mem _ hm;have hcn:a.eval (.const (.slice none 0 0))= .slice none 0 0:=rfl
 cases l with
 |none=>
  have hx0:xs=[]:=uS hraw.1;have hy0:ys=[]:=by
   obtain⟨lo',m,_,_,_,_,rfl⟩:=iQ hs;subst hx0;simp
  have Z:(Op.equal t (.slice none 0 0) (.slice none 0 0)).run E.P w= .ok true w:=C5 fun d=>by
   simp [Op.equalIn,lc Y]
  have u_:(execOp a.eval ⟨some d,.binOp .eql t x (.const (.slice none 0 0)) yt,ty,pos,after,none⟩).run E.P w= .ok (.value (.bool true)) w:=by
   simp [execOp,D,o4,hcn,eqGuard,binOp,Z]
  refine⟨fun c h=>(by cases h),?_⟩;rw [u_];exact k true (fun _=>hy0) _ _ S (st.step (ji.refl _ _ _) st.sat hd (jN.2 rfl))
 |some b=>
  obtain⟨ad,hv⟩: ∃ad,o4 r.sz (some b) cap lo.toNat ys.length= .slice (some ad) ys.length (cap-lo.toNat):=⟨_,rfl⟩;have Z:(Op.equal t (.slice (some ad) ys.length (cap-lo.toNat)) (.slice none 0 0)).run E.P w= .ok false w:=C5 fun d=>by
   simp [Op.equalIn,lc Y]
  have u_:(execOp a.eval ⟨some d,.binOp .eql t x (.const (.slice none 0 0)) yt,ty,pos,after,none⟩).run E.P w= .ok (.value (.bool false)) w:=by
   simp [execOp,D,hv,hcn,eqGuard,binOp,Z]
  refine⟨fun c h=>(by cases h),?_⟩;rw [u_];exact k false (fun e=>(by cases e)) _ _ S (st.step (ji.refl _ _ _) st.sat hd (jN.2 rfl))
def QE{t' :TypeId}{l l2:Option Nat}{cap2:Nat}{zs us:List α}{y:Operand}(ti:TI E.P T sz bytes agg z)(k_:r.sz=sz)(hz:Nat.beq z.length sz=true)(h0:Nat.blt 0 sz=true)(h128:Nat.ble bytes 2048=true)(Y:E.P.underlying t=some (.slice T))(ht' :t' =t)(hd:Nat.blt d E.N.n=true)(I:aG E.N G x (tV (ak l cap n)))(hm:nU mm r U l2 cap2 us∈fa r T l cap xs::O)(hs:fz us lo (us.length:Int)=some ys)(hy:aG E.N G y (tV (o4 r.sz l2 cap2 lo.toNat ys.length)))(happ:nH xs ys=some zs)(k: ∀l' cap',RG E ops hf rest (fa r T l' cap' zs::O) ((d,tV (ak l' cap' zs.length))::G))(hn:n=xs.length:=by rfl):
  RG E ops hf (⟨some d,.call ⟨.builtin .append,#[x,y],#[t,t']⟩,ty,pos,after,none⟩::rest) (fa r T l cap xs::O) G:=by
 subst ht';exact CC (u:=fun cap' l' =>tV (ak l' cap' zs.length)) ti k_ hz h0 h128 Y hd I (fun a w S st=>by
  have D:a.eval y=o4 r.sz l2 cap2 lo.toNat ys.length:=hy S a st.facts;rw [D];exact Md Y (st.own.mem _ hm).1 hs) happ (fun _ _ _ _ _=>rfl) k hn
end
abbrev Uh(α X:Type):=(σ:Type)->(α->σ->Option (Bool×σ))->σ->Option (σ×X)
def Sn(P:Program){α X:Type}(args:α->List Ty)(it:Uh α X)(Ob:X->OI->List OE)(E_:FuncId)(cap:Array Value)(fp:Nat->Prop)(w:World)(S:SH):Prop:=
 ∀(σ:Type) (y:α->σ->Option (Bool×σ)) (s:σ) (R:σ×X),it σ y s=some R-> ∀hx yv,Yld P args y hx yv-> ∀e,hx s e->e.p w S->(∀k,e.fp k-> ¬fp k)->
  Calls P E_ (#[yv]++cap) w fun en w' => ∃e' S' j,(∃v,en= .returned v)/\hx R.1 e' /\ji (fun k=>e.fp k\/fp k) w S w' S' /\kQ w' S' /\e'.p w' S' /\dR 0 sq w' S' (Ob R.2 j)/\(∀k,e'.fp k\/Cv (Ob R.2 j) k->(e.fp k\/fp k)\/w.heap.size<=k)/\ ∀k,e'.fp k-> ¬Cv (Ob R.2 j) k
def KX(P:Program){α X:Type}(args:α->List Ty)(it:Uh α X)(Ob:X->OI->List OE)(v:Value)(fp:Nat->Prop):OE where
 fp:=fp
 p:=fun w S=>(∀k,fp k->k<w.heap.size)/\ ∃E_ cap,v= .func (.func E_) #[] cap/\af P E_=true/\
  ∀C w' S',ji C w S w' S' ->(∀k,fp k-> ¬C k)->kQ w' S' ->Sn P args it Ob E_ cap fp w' S'
 here:=fun h k hk=>h.1 k hk
 kept:=by
  rintro C w w' S S' ⟨D,E_,cap,V,Z,h4⟩ k hC;refine⟨fun b K=>wg (D b K) k.size,E_,cap,V,Z,fun C' w'' S'' k' hC' hs=>?_⟩;exact h4 (fun b=>C b\/C' b) w'' S'' ((k.more fun b K=> .inl K).trans (k'.more fun b K=> .inr K)) (fun b K h=>h.elim (hC b K) (hC' b K)) hs
def acP:Unit->OI->List OE:=fun _ _=>[]
def itU{α:Type}(it:It α):Uh α Unit:=fun σ y s=>(it σ y s).map fun r=>(r,())
variable{args:α->List Ty}{E_:FuncId}{s:ru}
def acT{it:It α}(h:(Zq P args it v fp).p w S):(KX P args (itU it) acP v fp).p w S:=by
 obtain⟨D,E_,cap,V,Z,h4⟩:=h;refine⟨D,E_,cap,V,Z,fun C w' S' k hC hs σ y s R hit hx yv hy e he hep hap=>?_⟩;unfold itU at hit
 cases hq:it σ y s with
 |none=>rw [hq]at hit;cases hit
 |some s' =>
  rw [hq]at hit;obtain rfl:(s',())=R:=by simpa using hit
  refine(h4 C w' S' k hC hs σ y s s' hq hx yv hy e he hep hap).mono ?_;rintro en w2 ⟨e',S2,g1,g2,g3,g4,g5,g6⟩;exact⟨e',S2,rs,g1,g2,g3,g4,g5,trivial,fun k hk=>hk.elim (fun h=>(g6 k h).imp .inl id) (fun⟨_,h,_⟩=>by cases h),fun k _ ⟨_,h,_⟩=>by cases h⟩
section
variable{it:It α}
def acj(h:CG E hf c (KX P args (itU it) acP v fp::O) G):CG E hf c (Zq P args it v fp::O) G:=fun a w S st=>h a w S (st.own_map fun⟨⟨g1,g2⟩,g3,g4⟩=>⟨⟨acT g1,g2⟩,g3,g4⟩)
end
def DZ(P:Program)(E_:FuncId){α X:Type}(args:α->List Ty)(it:Uh α X)(Ob:X->OI->List OE)(O:List OE)(cts:List Ty):Prop:=
 ∀w S cap,kQ w S->dR 0 sq w S O->yw S cts cap->Sn P args it Ob E_ cap.toArray (Cv O) w S
def We(E:En){σ X:Type}(hx:σ->OE->Prop)(R:σ×X)(Ob:X->OI->List OE):Ending->World->Prop:=fun en w' => ∃e' S' j,(∃v,en= .returned v)/\hx R.1 e' /\ji E.B E.w0 E.S0 w' S' /\kQ w' S' /\e'.p w' S' /\dR 0 sq w' S' (Ob R.2 j)/\(∀k,e'.fp k\/Cv (Ob R.2 j) k->E.B k\/E.w0.heap.size<=k)/\ ∀k,e'.fp k-> ¬Cv (Ob R.2 j) k
variable{Ob:X->OI->List OE}
def DZ.of{f:FuncId}{N:Nat}{it:Uh α X}{cts:List Ty}(Q:P.funcs[f]? =some fn)(K:fn.body=some c)(hN:fn.ntmps=N)(hn:Nat.ble (cts.length+1) N=true)(h: ∀(σ:Type) (y:α->σ->Option (Bool×σ)) (s:σ) (R:σ×X),it σ y s=some R-> ∀hx yv,Yld P args y hx yv-> ∀e,hx s e-> ∀w0 S0 B,(∀k,B k->e.fp k\/ ∃f∈O,f.fp k)->
   CG ⟨P,⟨N,[]⟩,B,w0,S0,none⟩ (bodyPost P fn (We ⟨P,⟨N,[]⟩,B,w0,S0,none⟩ hx R Ob)) c (e::O) (wE 0 (tV yv::cts))):DZ P f args it Ob O cts:=by
 subst hN;intro w S cap hs ho hc σ y s R hit hx yv hy e he hep hap;have hown:dR w.heap.size (fun k=>e.fp k\/ ∃f∈O,f.fp k) w S (e::O):=
  ⟨⟨hep,fun k hk=> .inr (.inl hk)⟩,fun f Q b K hfb=>hap b K ⟨f,Q,hfb⟩,nZ ho fun f Q k hk=> .inr (.inr ⟨f,Q,hk⟩)⟩
 have hfacts:=qU (S:=S) (ts:=tV yv::cts) (vs:=yv::cap) ⟨rfl,hc⟩ fn.ntmps (by simpa using rx hn);have:=nG.1 (GF (F:=fw none) (n:=0) Q K trivial (h σ y s R hit hx yv hy e he w S (fun k=>e.fp k\/ ∃f∈O,f.fp k) (fun _ h=>h) _ w S ⟨ji.refl _ _ _,hs,hown,hfacts⟩));rw [show(#[yv]++cap.toArray:Array Value)=(yv::cap).toArray from by simp];exact this.mono fun en w' ⟨e',S',j,D,V,Z,h4,h5,h6,h7,h8⟩=>⟨e',S',j,D,V,Z,h4,h5,h6,h7,h8⟩
def Oy{N:Nat}{hx:σ->OE->Prop}{R:σ×X}{e:OE}(hr:fn.results= #[])(he:hx R.1 e)(j:OI)(hO:O=Ob R.2 j):
  AT ⟨P,⟨N,[]⟩,B,w0,S0,none⟩ (bodyPost P fn (We ⟨P,⟨N,[]⟩,B,w0,S0,none⟩ hx R Ob)) .ret (e::O) G:=fun _ _ S st=>by
 subst hO;refine⟨st.facts.defers,_,yb P fn hr _ _,e,S,j,⟨_,rfl⟩,he,st.ext,st.sat,st.own.1.1,st.own.2.2.weak,fun k hk=>?_,fun k hk ⟨f,Q,hfk⟩=>st.own.2.1 f Q k hk hfk⟩;rcases hk with hk|⟨f,Q,hk⟩
 ·exact(st.own.1.2 k hk).symm
 ·exact((dR.mem st.own.2.2 f Q).2 k hk).symm
def Ur{N:Nat}{hx:σ->OE->Prop}{R:σ×X}{e:OE}(hr:fn.results= #[])(he:hx R.1 e)(j:OI)(hO:O=Ob R.2 j):
  AT ⟨P,⟨N,[]⟩,B,w0,S0,none⟩ (bodyPost P fn (We ⟨P,⟨N,[]⟩,B,w0,S0,none⟩ hx R Ob)) .normal (e::O) G:=fun a w S st=>Oy hr he j hO a w S st
def DQ(P:Program)(f:FuncId)(ts:List Ty)(O1:List OE){α X:Type}(args:α->List Ty)(it:Uh α X)(Ob:X->OI->List OE):Prop:=
 ∀w S vs,kQ w S->yw S ts vs->dR 0 sq w S O1->Calls P f vs.toArray w fun e w' => ∃v fp S',e= .returned v/\ji (Cv O1) w S w' S' /\kQ w' S' /\(KX P args it Ob v fp).p w' S' /\ ∀k,fp k->Cv O1 k\/w.heap.size<=k
def Wd(E:En)(O1:List OE){α X:Type}(args:α->List Ty)(it:Uh α X)(Ob:X->OI->List OE):Ending->World->Prop:=fun e w' => ∃v fp S',e= .returned v/\ji E.B E.w0 E.S0 w' S' /\kQ w' S' /\(KX E.P args it Ob v fp).p w' S' /\ ∀k,fp k->Cv O1 k\/E.w0.heap.size<=k
variable{O1:List OE}
def DQ.of{f:FuncId}{N:Nat}{it:Uh α X}(Q:P.funcs[f]? =some fn)(K:fn.body=some c)(hN:fn.ntmps=N)(hn:Nat.ble ts.length N=true)(h: ∀w0 S0,CG ⟨P,⟨N,[]⟩,Cv O1,w0,S0,none⟩ (bodyPost P fn (Wd ⟨P,⟨N,[]⟩,Cv O1,w0,S0,none⟩ O1 args it Ob)) c O1 (wE 0 ts)):DQ P f ts O1 args it Ob:=by
 subst hN;intro w S vs hs hv ho;exact nG.1 (GF (F:=fw none) (n:=0) Q K trivial (h w S _ w S ⟨ji.refl _ _ _,hs,nZ ho fun f Q k hk=> .inr ⟨f,Q,hk⟩,qU hv _ (rx hn)⟩))
def Uq{N:Nat}{it:Uh α X}(hr:fn.results= #[.tmp k])(hk:look G k=some (tV v)):
  AT ⟨P,⟨N,[]⟩,Cv O1,w0,S0,none⟩ (bodyPost P fn (Wd ⟨P,⟨N,[]⟩,Cv O1,w0,S0,none⟩ O1 args it Ob)) .ret (KX P args it Ob v fp::O) G:=fun a w S st=>by
 have hv:a.tmps.getD k undef=v:=st.facts.h_ k _ hk;exact⟨st.facts.defers,_,pZ P fn k hr _ _,v,fp,S,by rw [hv],st.ext,st.sat,st.own.1.1,fun k hk=>(st.own.1.2 k hk).symm⟩
section
variable{ty:TypeId}
def QD{f:FuncId}{xs:List Operand}(O1 Or:List OE){it:Uh α X}(hO:O=O1++Or)(hc:af E.P f=true)(hs:DQ E.P f ts O1 args it Ob)(I:k5 E.N G xs ts)(hd:Nat.blt d E.N.n=true)(k: ∀v fp,RG E ops hf rest (KX E.P args it Ob v fp::Or) ((d,tV v)::G)):
  RG E ops hf (⟨some d,.call ⟨.value (.func f),xs.toArray,ats⟩,ty,pos,after,none⟩::rest) O G:= .of rfl fun a w S st=>by
 subst hO;have hr:(execOp a.eval ⟨some d,.call ⟨.value (.func f),xs.toArray,ats⟩,ty,pos,after,none⟩).run E.P w= .ok (.enter f (xs.map a.eval).toArray) w:=by
  simp [execOp,resolve,Act.eval,Deferred.ofValue,invoke,gT hc]
 refine⟨fun c h=>(by cases h),?_⟩;rw [hr];refine(hs w S _ st.sat (I.tys st.facts) (qp st.own).1.weak).mono fun e w' ⟨v,fp,S',he,D,V,Z,h4⟩=>⟨_,he,?_⟩;have st' :=st.turn (O2:=[KX E.P args it Ob v fp]) D V ⟨⟨Z,fun _ _=> .inl (kY _)⟩,fun _ h=>(by cases h),trivial⟩ (fun k ⟨f,Q,hk⟩=>by
  rw [np.1 Q]at hk;exact h4 k hk)
 exact k v fp _ _ S' (st'.put hd rfl)
def LD{O2:List OE}{it:Uh α X}{cts:List Ty}{L_:List Operand}(hO:O=O1++O2)(hc:af E.P E_=true)(hs:DZ E.P E_ args it Ob O1 cts)(hcap:k5 E.N G L_ cts)(hd:Nat.blt d E.N.n=true)(k: ∀v fp,RG E ops hf rest (KX E.P args it Ob v fp::O2) ((d,tV v)::G)):
  RG E ops hf (⟨some d,.makeFunc (.func E_) #[] L_.toArray,ty,pos,after,none⟩::rest) O G:= .of rfl fun a w S st=>by
 subst hO;have hr:(execOp a.eval ⟨some d,.makeFunc (.func E_) #[] L_.toArray,ty,pos,after,none⟩).run E.P w= .ok (.value (.func (.func E_) #[] (L_.map a.eval).toArray)) w:=by simp [execOp,Instr.makeFunc]
 refine⟨fun c h=>(by cases h),?_⟩;rw [hr];obtain⟨D,V,Z⟩:=qp st.own;have hcv:=hcap.tys st.facts;refine k (.func (.func E_) #[] (L_.map a.eval).toArray) (Cv O1) _ _ S ⟨st.ext,st.sat,?_,st.facts.put hd rfl⟩;refine dR.cons ⟨⟨fun b ⟨f,Q,K⟩=>f.here (dR.mem D f Q).1 b K,E_,_,rfl,hc,fun C w' S' he hC hs' =>?_⟩,fun b ⟨f,Q,K⟩=>(dR.mem D f Q).2 b K⟩ (fun f Q b ⟨g,H,K⟩=>Z g H f Q b K) V;exact hs w' S' _ hs' (D.weak.ext he fun f Q b K=>hC b ⟨f,Q,K⟩) (hcv.mono he.keep)
end
def vN(l:Nat)(r:Loop)(st:LoopState)(pd:Option Code):OE where
 fp:=fun k=>k=l
 p:=fun w S=>S l=none/\w.heap[l]? =some (.loop {r with state:=st,pending:=pd})
 here:=by
  intro w S h k hk;subst hk;exact(s9.1 h.2).1
 kept:=by
  intro C w w' S S' h k hC;have o_:=(s9.1 h.2).1;exact⟨by rw [k.old l o_ (hC l rfl)];exact h.1,by rw [k.heap l o_ (hC l rfl)];exact h.2⟩
def Zi(j:Option Nat):LoopState:=if j.isNone then .ready else .done
def Xm(E:En)(l:Nat)(rec:Loop){σ ι:Type}(Oi:ι->List OE)(dat:ι->σ)(jc:Nat->Code)(r:Option Nat×σ):Ending->World->Prop:=fun en w' =>
 ∃i S',en= .returned (.bool r.1.isNone)/\dat i=r.2/\ji E.B E.w0 E.S0 w' S' /\kQ w' S' /\dR E.base E.B w' S' (vN l rec (Zi r.1) (r.1.map jc)::Oi i)
def B0{α σ:Type}(f:α->σ->Option (Option Nat×σ)):α->Option Nat×σ->Option (Bool×(Option Nat×σ)):=fun x s=>
 match s.1 with
 |some _=>none
 |none=>(f x s.2).map fun r=>(r.1.isNone,r)
variable{rec:Loop}{ι:Type}
section
def Dg{l:Nat}{st st' :LoopState}{pd pd' :Option Code}{O:List OE}(h:dR base B w S (vN l rec st pd::O))(hs:kQ w S):
  ji (fun k=>k=l) w S (w.putObj l (.loop {rec with state:=st',pending:=pd' })) S/\kQ (w.putObj l (.loop {rec with state:=st',pending:=pd' })) S/\dR base B (w.putObj l (.loop {rec with state:=st',pending:=pd' })) S (vN l rec st' pd' ::O):=by
 obtain⟨G_,hl⟩:=h.1.1;have o_:=(s9.1 hl).1;have x_:ji (fun k=>k=l) w S (w.putObj l (.loop {rec with state:=st',pending:=pd' })) S:=⟨rfl,rfl,rfl,eX _,by simp,fun k _ hk=>World.putObj_heap_other hk,SH.le_refl _,fun _ _ _=>rfl⟩;refine⟨x_,hs.same fun k o hk=>?_,⟨⟨G_,World.putObj_heap_same o_⟩,h.1.2⟩,h.2.1,h.2.2.ext x_ fun g H k hk hkl=>h.2.1 g H k hkl hk⟩;have Q_:k≠l:=fun e=>by subst e;rw [G_]at hk;cases hk
 exact World.putObj_heap_other Q_
def J8{l:Nat}{body:Code}{R:Ending->World->Prop}(h:CG E (roundPost E.P l R) body (vN l rec .busy none::O) G):AT E (YV E l body R) .normal (vN l rec .ready none::O) G:=fun a w S st=>by
 obtain⟨D,V,Z⟩:=Dg (st' := .busy) (pd' :=none) st.own st.sat;obtain⟨_,hl⟩:=st.own.1.1;exact⟨_,run_beginRound hl rfl,h a _ S ⟨st.ext.step D (fun c hc=>st.own.1.2 c hc),V,Z,st.facts⟩⟩
def LK{l:Nat}{Oi:ι->List OE}{dat:ι->σ}{jc:Nat->Code}{s2:σ}(i:ι)(hi:dat i=s2)(hO:O=Oi i):AT E (roundPost E.P l (Xm E l rec Oi dat jc (none,s2))) .normal (vN l rec .busy none::O) G:=fun a w S st=>by
 subst hO;obtain⟨D,V,Z⟩:=Dg (st' := .ready) (pd' :=none) st.own st.sat;obtain⟨_,hl⟩:=st.own.1.1;exact⟨_,_,run_endRound none hl,i,S,rfl,hi,st.ext.step D (fun c hc=>st.own.1.2 c hc),V,Z⟩
def D6{l:Nat}{Oi:ι->List OE}{dat:ι->σ}{jc:Nat->Code}{s2:σ}(q:Nat)(hq:jc q= .ret)(i:ι)(hi:dat i=s2)(hO:O=Oi i):AT E (roundPost E.P l (Xm E l rec Oi dat jc (some q,s2))) .ret (vN l rec .busy none::O) G:=fun a w S st=>by
 subst hO;obtain⟨D,V,Z⟩:=Dg (st' := .done) (pd' :=some .ret) st.own st.sat;obtain⟨_,hl⟩:=st.own.1.1;exact⟨_,_,run_endRound (some .ret) hl,i,S,rfl,hi,st.ext.step D (fun c hc=>st.own.1.2 c hc),V,by rw [GG,hq];exact Z⟩
def J2{it:Uh α X}(Oi:ι->List OE)(dat:ι->σ)(jc:Nat->Code){f:α->σ->Option (Option Nat×σ)}{R:(Option Nat×σ)×X}{g:Operand}{ps:List Nat}{assign body:Code}(hr:E.r=none)(H:aG E.N G g (tV v))(i0:ι)(hO:O=KX E.P args it Ob v fp::Oi i0)(hit:it (Option Nat×σ) (B0 f) (none,dat i0)=some R)(hps: ∀x,ps.length=(args x).length)(hpn:(ps.all fun d=>Nat.blt d E.N.n)=true)(hbody: ∀(i:ι) (x:α) (r:Option Nat×σ),f x (dat i)=some r-> ∀(l:Nat) (rec:Loop) (w1:World) (S1:SH) (B1:Nat->Prop),
   CG ⟨E.P,⟨E.N.n,[]⟩,B1,w1,S1,some l⟩ (YV ⟨E.P,⟨E.N.n,[]⟩,B1,w1,S1,some l⟩ l body (Xm ⟨E.P,⟨E.N.n,[]⟩,B1,w1,S1,some l⟩ l rec Oi dat jc r)) assign (vN l rec .ready none::Oi i) (Ji ps (args x) G))(k: ∀i' j,dat i' =R.1.2-> ∀b,(R.1.1=none->AT ⟨E.P,⟨E.N.n,Av b::E.N.ds⟩,E.B,E.w0,E.S0,E.r⟩ hf .normal (Gb b::(Ob R.2 j++Oi i')) G)/\
   (∀q,R.1.1=some q->CG ⟨E.P,⟨E.N.n,Av b::E.N.ds⟩,E.B,E.w0,E.S0,E.r⟩ hf (jc q) (Gb b::(Ob R.2 j++Oi i')) G)):CG E hf (.rangeFunc g ps.toArray assign body) O G:=fun a w S st=>by
 subst hO;refine wpIn_rangeFunc fun fn _=>?_;have hr0:(fw E.r).round=none:=hr;have hfw:fw E.r=fw none:=by rw [hr]
 rw [hr0];obtain⟨rec,hrec⟩: ∃rec:Loop,rec={state:= .ready,pending:=none,fn,tmps:=a.tmps,params:=ps.toArray,assign,body,defers:=w.heap.size}:=⟨_,rfl⟩;obtain⟨x1,x2,x3⟩:=gb (w:=w) (.deferred (some [])) st.sat;obtain⟨y1,y2,y3⟩:=gb (w:=w.alloc (.deferred (some []))) (.loop rec) x2;obtain⟨W1,hW1⟩: ∃W1,(w.alloc (.deferred (some []))).alloc (.loop rec)=W1:=⟨_,rfl⟩;rw [hW1]at y1 y2;have k_:(w.alloc (.deferred (some []))).heap.size=w.heap.size+1:=by simp
 rw [k_]at y3;have x_:ji sq w S W1 S:=x1.trans y1;have hL1:W1.heap[w.heap.size+1]? =some (.loop rec):=by
  rw [<-hW1];have:=World.alloc_heap_new (w.alloc (.deferred (some []))) (.loop rec);rwa [k_]at this
 have hK1:W1.heap[w.heap.size]? =some (.deferred (some [])):=by
  rw [y1.heap w.heap.size (by omega) (fun h=>h)];exact World.alloc_heap_new w _
 have hW1s:W1.heap.size=w.heap.size+2:=by rw [<-hW1];simp
 have hg' :a.eval g=v:=H S a st.facts;obtain⟨hit1,hap,hoi⟩:=st.own;obtain⟨⟨hfp,gf,cap,hv,hcal,hcall⟩,hbase⟩:=hit1;have hbl:=st.H_;have hoi1:dR E.base E.B W1 S (Oi i0):=hoi.ext0 x_;have o_: ∀f∈Oi i0,∀k,f.fp k->k<w.heap.size:=fun f Q k hk=>f.here (dR.mem hoi f Q).1 k hk;refine⟨w.heap.size+1,[Av w.heap.size],W1,{target:= .fn (.func gf) cap,args:= #[.func (.yield (w.heap.size+1)) #[] #[]]},W1,gf,
  #[.func (.yield (w.heap.size+1)) #[] #[]]++cap,W1,?_,?_,fun _ _=>trivial,?_,fun h=>(by cases h),?_⟩
 ·rw [<-hW1,hrec];exact run_enterLoop_outer _ _ _ _ _
 ·simp only [resolve,hg',hv];simp [go_sem]
 ·simp [invoke,go_sem,gT hcal]
 rw [hfw];refine nG.2 ?_;have hyld:Yld E.P args (B0 f) (fun s e=> ∃i,dat i=s.2/\e=ua S (vN (w.heap.size+1) rec (Zi s.1) (s.1.map jc)::Oi i)) (.func (.yield (w.heap.size+1)) #[] #[]):=by
  refine⟨_,rfl,?_⟩;rintro x ⟨j0,s⟩ r hy e ⟨i,hi,rfl⟩ w2 S2 vs hs2 ⟨hle,hown⟩ hvs
  cases j0 with
  |some q=>unfold B0 at hy;cases hy
  |none=>
  have hi' :dat i=s:=hi;subst hi';obtain⟨r2,hs2',rfl⟩: ∃r2,f x (dat i)=some r2/\r=(r2.1.isNone,r2):=by
   unfold B0 at hy
   cases Q:f x (dat i)with
   |none=>simp only [Q]at hy;cases hy
   |some s2=>simp only [Q]at hy;exact⟨s2,rfl,by simpa using hy.symm⟩
  have hl2:=hown.1.1.2;have hvl:=hvs.length;have hyr:=run_yield (P:=E.P) (args:=vs.toArray) hl2 (by rw [hrec];simp [hps x,hvl]);refine⟨_,_,_,_,hyr,roundIn_of_wpIn trivial ?_⟩;have hown' :dR 0 sq w2 S2 (vN (w.heap.size+1) rec .ready none::Oi i):=hown;have:=hbody i x r2 hs2' (w.heap.size+1) rec w2 S2 (fun k=> ∃f∈vN (w.heap.size+1) rec .ready none::Oi i,f.fp k)
   {tmps:=(ps.zip vs).foldl (fun t (p:Nat×Value)=>t.setIfInBounds p.1 p.2) a.tmps,defers:=[]} w2 S2
   ⟨ji.refl _ _ _,hs2,nZ hown' fun f Q k hk=> .inr ⟨f,Q,hk⟩,Cz ps (args x) vs ⟨a.tmps,[]⟩ G (hps x) hvs hpn ⟨st.facts.size,rfl,fun j t h=>t.mono hle (st.facts.h_ j t h)⟩⟩
  rw [hrec];rw [hrec]at this;rw [zJ];refine wpIn_mono this ?_;intro e a3 w3 hp
  cases e with
  |normal=>
   obtain⟨w4,hb4,hp4⟩:=hp;refine⟨w4,hb4,wpIn_mono hp4 ?_⟩;have hR: ∀en w',Xm ⟨E.P,⟨E.N.n,[]⟩,fun k=> ∃f∈vN (w.heap.size+1) rec .ready none::Oi i,f.fp k,w2,S2,some (w.heap.size+1)⟩ (w.heap.size+1) rec Oi dat jc r2 en w' ->
     ∃e' S',en= .returned (.bool r2.1.isNone)/\(∃i',dat i' =r2.2/\e' =ua S (vN (w.heap.size+1) rec (Zi r2.1) (r2.1.map jc)::Oi i'))/\ji (ua S (vN (w.heap.size+1) rec .ready none::Oi i)).fp w2 S2 w' S' /\kQ w' S' /\e'.p w' S' /\ ∀k,e'.fp k->(ua S (vN (w.heap.size+1) rec .ready none::Oi i)).fp k\/w2.heap.size<=k:=by
    rintro en w' ⟨i',S',D,V,Z,h4,h5⟩;exact⟨_,S',D,⟨i',V,rfl⟩,Z,h4,⟨SH.le_trans hle Z.keep,h5.weak⟩,fun k ⟨f,Q,hk⟩=>((dR.mem h5 f Q).2 k hk).symm⟩
   rw [hrec]at hR;intro e5 a5 w5 hp5;cases e5<;>simp only [roundPost]at hp5 ⊢
   case normal=>obtain⟨v5,w6,D,V⟩:=hp5;exact⟨v5,w6,D,hR _ _ V⟩
   case ret=>obtain⟨v5,w6,D,V⟩:=hp5;exact⟨v5,w6,D,hR _ _ V⟩
   case exit=>obtain⟨v5,w6,D,V⟩:=hp5;exact⟨v5,w6,D,hR _ _ V⟩
   case goto=>obtain⟨v5,w6,D,V⟩:=hp5;exact⟨v5,w6,D,hR _ _ V⟩
  |_=>exact hp
 have hrecE:W1.heap[w.heap.size+1]? =some (.loop {rec with state:= .ready,pending:=none}):=by rw [hL1,hrec]
 have he0:(ua S (vN (w.heap.size+1) rec .ready none::Oi i0)).p W1 S:=⟨SH.le_refl _,⟨⟨y3,hrecE⟩,fun _ _=> .inl (kY _)⟩,fun f Q k hk hfk=>by have:=o_ f Q k hfk;have hk' :k=w.heap.size+1:=hk;omega,hoi1.weak⟩;have hap0: ∀k,(ua S (vN (w.heap.size+1) rec .ready none::Oi i0)).fp k-> ¬fp k:=by
  rintro k ⟨f,Q,hk⟩ hfk;rcases iI.1 Q with rfl|Q
  ·have:=hfp k hfk;have hk' :k=w.heap.size+1:=hk;omega
  ·exact hap f Q k hfk hk
 refine(hcall sq W1 S x_ (fun _ _ h=>h) y2 _ (B0 f) (none,dat i0) R hit _ _ hyld _ ⟨i0,rfl,rfl⟩ he0 hap0).mono ?_;rintro en w2 ⟨e',S2,j,⟨vr,rfl⟩,⟨i',hi',rfl⟩,hx2,hs2,⟨hle2,hown2⟩,hob,hnew,hapo⟩;have hl2:=hown2.1.1.2;have hnb: ∀k,(Gb w.heap.size).fp k-> ¬((ua S (vN (w.heap.size+1) rec .ready none::Oi i0)).fp k\/fp k):=by
  rintro k hk h;have hk' :k=w.heap.size:=hk;subst hk';rcases h with⟨f,Q,hfk⟩|h
  ·rcases iI.1 Q with rfl|Q
   ·have hk' :w.heap.size=w.heap.size+1:=hfk;omega
   ·have:=o_ f Q _ hfk;omega
  ·have:=hfp _ h;omega
 have hBin: ∀k,((ua S (vN (w.heap.size+1) rec .ready none::Oi i0)).fp k\/fp k)->E.w0.heap.size<=k\/E.B k:=by
  rintro k (⟨f,Q,hk⟩|h)
  ·rcases iI.1 Q with rfl|Q
   ·left;have hk' :k=w.heap.size+1:=hk;have:E.w0.heap.size<=w.heap.size:=hbl;omega
   ·exact(dR.mem hoi f Q).2 k hk
  ·exact hbase k h
 have hBn: ∀k,((ua S (vN (w.heap.size+1) rec (Zi R.1.1) (R.1.1.map jc)::Oi i')).fp k\/Cv (Ob R.2 j) k)->E.base<=k\/E.B k:=fun k hk=>(hnew k hk).elim (hBin k) (fun h=> .inl (by have D:E.base<=w.heap.size:=hbl;have V:W1.heap.size<=k:=h;omega));have hb2:dR E.base E.B w2 S2 (vN (w.heap.size+1) rec (Zi R.1.1) (R.1.1.map jc)::(Ob R.2 j++Oi i')):=by
  obtain⟨q1,q2,q3⟩:=hown2;refine dR.cons ⟨q1.1,fun k hk=>hBn k (.inl ⟨_,pz ..,hk⟩)⟩ (fun f Q=>?_) (dR.join (nZ hob fun f Q k hk=>hBn k (.inr ⟨f,Q,hk⟩)) (nZ q3 fun f Q k hk=>hBn k (.inl ⟨f,pA _ Q,hk⟩)) fun e he f Q k hek hfk=>hapo k ⟨f,pA _ Q,hfk⟩ ⟨e,he,hek⟩);rcases oO.1 Q with Q|Q
  ·exact fun k hk hfk=>hapo k ⟨_,pz ..,hk⟩ ⟨f,Q,hfk⟩
  ·exact q2 f Q
 have hend:Zi R.1.1≠ .busy:=by unfold Zi;split<;>simp
 obtain⟨z1,z2,z3⟩:=Dg (st' := .exhausted) (pd' :=R.1.1.map jc) hb2 hs2;have hdf:(Gb w.heap.size).p W1 S:=⟨x3,hK1⟩;have TC:(Gb w.heap.size).p w2 S2:=(Gb w.heap.size).kept hdf hx2 hnb;have hd3:=(Gb w.heap.size).kept TC z1 (fun k hk hkl=>by have D:k=w.heap.size:=hk;have V:k=w.heap.size+1:=hkl;omega);have stE:St ⟨E.P,⟨E.N.n,Av w.heap.size::E.N.ds⟩,E.B,E.w0,E.S0,E.r⟩ (Gb w.heap.size::(Ob R.2 j++Oi i')) G {a with defers:=[Av w.heap.size]++a.defers} (w2.putObj (w.heap.size+1) (.loop {rec with state:= .exhausted,pending:=R.1.1.map jc})) S2:=by
  refine⟨((st.ext.step0 x_).step hx2 hBin).step z1 (fun c hc=>z3.1.2 c hc),z2,?_,?_⟩
  ·refine dR.cons ⟨hd3,fun k hk=> .inl (by have D:k=w.heap.size:=hk;rw [D];exact hbl)⟩ (fun f Q k hk hfk=>?_) z3.2.2;have D:k=w.heap.size:=hk;have V:((ua S (vN (w.heap.size+1) rec (Zi R.1.1) (R.1.1.map jc)::Oi i')).fp k\/Cv (Ob R.2 j) k):=by
    rcases oO.1 Q with Q|Q
    ·exact .inr ⟨f,Q,hfk⟩
    ·exact .inl ⟨f,pA _ Q,hfk⟩
   rcases hnew k V with h|h
   ·exact hnb k hk h
   ·omega
  ·refine⟨st.facts.size,?_,fun j t hj=>t.mono (SH.le_trans (SH.le_refl S) hle2) (st.facts.h_ j t hj)⟩;show Av w.heap.size::a.defers=_;rw [st.facts.defers]
 obtain⟨k1,k2⟩:=k i' j hi' w.heap.size;refine⟨_,_,run_endLoop hl2 hend,?_⟩
 cases hR1:R.1.1 with
 |none=>
  rw [hR1]at stE;exact k1 hR1 _ _ S2 stE
 |some q=>
  rw [hR1]at stE;have:=k2 q hR1 _ _ S2 stE;show(jc q).wpIn (fw none) 0 E.P hf _ _;have hE:fw (⟨E.P,⟨E.N.n,Av w.heap.size::E.N.ds⟩,E.B,E.w0,E.S0,E.r⟩:En).r=fw none:=hfw;rw [hE]at this;exact this
end
def D8(l:List (Option Nat×Nat)):OI:={h:=fun n=>l.getD n (none,0)}
def dK(P:Program){A X ρ:Type}(args:A->List Ty)(Ob:X->OI->List OE)(res:ρ->Ty)(f:X->A->Option (ρ×X)):Ty where
 p:=fun S v=> ∀x y R,f x y=some R-> ∃E_ fst cap,v= .func (.func E_) fst cap/\af P E_=true/\ ∀i w S' vs,SH.le S S' ->kQ w S' ->yw S' (args y) vs->dR 0 sq w S' (Ob x i)->
  Calls P E_ (fst++vs.toArray++cap) w fun en w' => ∃j v S'',en= .returned v/\(res R.1).p S'' v/\ji (Cv (Ob x i)) w S' w' S'' /\kQ w' S'' /\dR 0 sq w' S'' (Ob R.2 j)/\ ∀k,Cv (Ob R.2 j) k->Cv (Ob x i) k\/w.heap.size<=k
 mono:=fun h k x y R Q=>by
  obtain⟨E_,fst,cap,e,hc,hs⟩:=k x y R Q;exact⟨E_,fst,cap,e,hc,fun i w S' vs hle=>hs i w S' vs (SH.le_trans h hle)⟩
variable{res:ρ->Ty}
def Ej{args:A->List Ty}:(dK P args Ob res (fun _ _=>none)).p S v:=fun _ _ _ h=>by cases h
section
section
variable{ty:TypeId}
def mP{args:A->List Ty}{p:Operand}(hc:af E.P E_=true)(hp:aG E.N G p (tV (an b 0)))(hs: ∀x y R,f x y=some R-> ∀i,dj E.P E_ (tV (an b 0)::args y) (Ob x i) (fun _:OI=>res R.1) (fun j=>Ob R.2 j)):
  ck E O G ⟨dst,.makeFunc (.func E_) #[p] #[],ty,pos,after,g⟩ (dK E.P args Ob res f):= .of_pure fun a w S _ _ Q=>by
 have D:a.eval p=an b 0:=hp S a Q;refine⟨.func (.func E_) #[an b 0] #[],by simp [execOp,Instr.makeFunc,D],fun x y R hR=>⟨E_,#[an b 0],#[],rfl,hc,fun i w' S' vs _ C_ hv ho=>?_⟩⟩;have:=hs x y R hR i w' S' (an b 0::vs) C_ ⟨rfl,hv⟩ ho;rw [show(#[an b 0]++vs.toArray++ #[]:Array Value)=(an b 0::vs).toArray from by simp];exact this
def qP{args:A->List Ty}(hc:af E.P E_=true)(hs: ∀x y R,f x y=some R-> ∀i,dj E.P E_ (args y) (Ob x i) (fun _:OI=>res R.1) (fun j=>Ob R.2 j)):
  aG E.N G (.func E_) (dK E.P args Ob res f):=fun S a _ x y R hR=>
 ⟨E_,#[],#[],rfl,hc,fun i w' S' vs _ C_ hv ho=>by
  rw [show(#[]++vs.toArray++ #[]:Array Value)=vs.toArray from by simp];exact hs x y R hR i w' S' vs C_ hv ho⟩
end
def zt{args:A->List Ty}{x:X}{y:A}{R:ρ×X}{i:OI}{ty:TypeId}{fo:Operand}{xs:List Operand}(Or:List OE)(hO:O=Ob x i++Or)(Q:aG E.N G fo (dK E.P args Ob res f))(hR:f x y=some R)(I:k5 E.N G xs (args y))(hpost: ∀j,Ob R.2 j++Or=post j):
  EffOK E O G ⟨some d,.call ⟨.value fo,xs.toArray,ats⟩,ty,pos,after,g⟩ post (fun _=>res R.1):=fun a w S C_ ho hF K=>by
 subst hO;obtain rfl:(fun j=>Ob R.2 j++Or)=post:=funext hpost;obtain⟨E_,fst,cap,e,hc,hs⟩:=Q S a hF x y R hR;have hr:(execOp a.eval ⟨some d,.call ⟨.value fo,xs.toArray,ats⟩,ty,pos,after,g⟩).run E.P w= .ok (.enter E_ (fst++(xs.map a.eval).toArray++cap)) w:=by
  simp [execOp,resolve,e,Deferred.ofValue,invoke,gT hc]
 refine⟨fun c h=>(by cases h),?_⟩;rw [hr];exact(hs i w S _ (SH.le_refl _) C_ (I.tys hF) (qp ho).1.weak).mono fun en w' ⟨j,v,S',he,hv,D,V,Z,h4⟩=>⟨_,he,v,S',j,rfl,D.more fun b ⟨f,Q,K⟩=>⟨f,uR _ Q,K⟩,V,dR.turn ho K D Z h4,hv⟩
def pu{f:FuncId}{t:Ty}{Ob:OI->List OE}{i:OI}(h:dj P f ts O1 (fun _:OI=>t) (fun _=>Ob i)):dj P f ts O1 (fun _:OI=>t) Ob:=fun w S vs hs hv ho=>
 (h w S vs hs hv ho).mono fun _ _ ⟨_,v,S',D,V,Z,h4,h5,h6⟩=>⟨i,v,S',D,V,Z,h4,h5,h6⟩
section
variable{N:Nat}{t:ι->Ty}{O2:ι->List OE}
def nK{rvs:List ResultVar}(hr:fn.results=rvs.toArray)(D:Nat.beq rvs.length 1=false)(h:Ua P ⟨N,[]⟩ G rvs ts)(i:ι)(hO:O=O2 i)(Y:t i=tT ts):
  AT ⟨P,⟨N,[]⟩,Cv O1,w0,S0,none⟩ (bodyPost P fn (Wc ⟨P,⟨N,[]⟩,Cv O1,w0,S0,none⟩ O1 t O2)) .ret O G:=fun a w S st=>by
 obtain⟨vs,k1,k2,k3⟩:=h.run st.sat st.facts;have Q_: ¬vs.length=1:=by rw [k3];intro e;rw [e]at D;cases D
 refine⟨st.facts.defers,.tuple vs.toArray,?_,Lt st rfl i hO (by rw [Y];exact⟨vs,rfl,k2⟩)⟩;have e1:(fn.results.mapM (Cm a.tmps)).run P w= .ok vs.toArray w:=by
  rw [hr,List.mapM_toArray,Sem.run_map,k1];rfl
 have e3:results fn a.tmps=((fn.results.mapM (Cm a.tmps))>>=fun vs=>pure (if h:vs.size=1 then vs[0]else .tuple vs)):=rfl;rw [e3,uc,e1];simp [Result.andThen,Q_]
def lx{x:α}(hr:fn.results= #[.cell k T])(ti:TI P T sz bytes agg z)(k_:r.sz=sz)(hag:r.agg=agg)(hk:look G k=some (aY r x))(i:ι)(hO:O=O2 i)(Y:t i=tD r x):
  AT ⟨P,⟨N,[]⟩,Cv O1,w0,S0,none⟩ (bodyPost P fn (Wc ⟨P,⟨N,[]⟩,Cv O1,w0,S0,none⟩ O1 t O2)) .ret O G:=fun a w S st=>by
 obtain⟨b,off,c,U,fr,D,V,Z⟩:=st.facts.h_ k _ hk;obtain⟨c',h4,h5⟩:=st.sat.part V (r.len Z);rw [<-h5]at Z;refine⟨st.facts.defers,r.val ((c'.toList.drop off).take r.sz),?_,Lt st rfl i hO (by rw [Y];exact⟨_,rfl,Z⟩)⟩;have hl:=nv ti h4 k_ hag Z;have h1' :a.tmps[k]?.getD undef=Value.pointer (some ⟨b,off,none⟩):=by simpa [Ka] using D
 simp [results,hr,h1',asAddr,hl]
end
def tPV(u:Value)(t:Ty):Ty where
 p:=fun S v=>v=u/\t.p S u
 mono:=fun h ⟨e,k⟩=>⟨e,t.mono h k⟩
def St.settleP{x:α}(h:St E (bx r T b x::O) G a w S)(hk:look G k=some (tV (an b 0))): ∃S',St E O ((k,tPV (an b 0) (aY r x))::G) a w S' :=by
 obtain⟨S',D⟩:=h.settleB hk;have hv:a.tmps.getD k undef=an b 0:=h.facts.h_ k _ hk;refine⟨S',⟨D.ext,D.sat,D.own,⟨D.facts.size,D.facts.defers,fun j t hj=>?_⟩⟩⟩;have hp:(aY r x).p S' (a.tmps.getD k undef):=D.facts.h_ k _ (by simp [look]);by_cases K:Nat.beq k j=true
 ·have e:=rm K;subst e;simp only [look,Nat.beq_refl,cond_true,LO]at hj;subst hj;exact⟨hv,by rw [<-hv];exact hp⟩
 ·rw [B6]at K;have:look ((k,aY r x)::G) j=some t:=by
   simp only [look,K,cond_false]at hj ⊢;exact hj
  exact D.facts.h_ j t this
def CJ{x:α}(k:Nat)(hk:look G k=some (tV (an b 0)))(h:AT E hf e O ((k,tPV (an b 0) (aY r x))::G)):AT E hf e (bx r T b x::O) G:=
 fun a w _ st=>let⟨S',st'⟩:=st.settleP hk;h a w S' st'
def YU{hs:HL}{x:α}(h:dR base B w S (bx (rH r hs) T b x::O)):dR base B w S (bx r T b x::O):=by
 obtain⟨⟨⟨D,c,V,Z⟩,h4⟩,h5,h6⟩:=h;exact⟨⟨⟨D,c,V,Z.1⟩,h4⟩,h5,h6⟩
def EY{hs:HL}{x:α}(h:AT E hf e (bx r T b x::O) G):AT E hf e (bx (rH r hs) T b x::O) G:=fun a w S st=>h a w S (st.own_map YU)
def Eu{G:oz}{t:Ty}(ti:TI P T 1 bytes false z)(hk:look G k=some (aY rV u))(hj:look G j=some (tPV u t)):R9 P N G (.cell k T) t:=fun a w S hs Q=>by
 obtain⟨v,D,V⟩:=jP (r:=rV) ti rfl rfl hk a w S hs Q;have Z:=(yS.1 V).1;subst Z;obtain⟨_,h4⟩:=Q.h_ j _ hj;exact⟨v,D,h4⟩
end
section
variable [DecidableEq κ]{k:κ}{i v:Operand}{dst:Option Nat}{ty:TypeId}
def fe{γ:β->Ty}(hm:E.P.underlying t=some (.map kt et))(hk:FP E.P kt kv)(I:aG E.N G x (tV (ni b)))(hi:B3 E.N G i (kv k))(hv:aG E.N G v (γ y))(h: ∀os',RG E ops hf rest (sr (CL γ) kv b none os' (dC m k y)::O) G):
  RG E ops hf (⟨none,.insert t x i v,ty,pos,after,none⟩::rest) (sr (CL γ) kv b none os m::O) G:= .of rfl fun a w S st=>by
 have D:a.eval x=ni b:=I S a st.facts;have V:a.eval i=kv k:=hi S a st.facts;have Z:(γ y).p S (a.eval v):=hv S a st.facts;obtain⟨⟨hp,hfp⟩,hap,hO⟩:=st.own;obtain⟨G_,hnb,es,clock,e3,e4,hst⟩:=hp;obtain⟨q,hq,hdk,hinj⟩:=hk;obtain⟨os1,p1,p2,_⟩:=sw hdk hinj (k:=k) 0 e4;have hnb1: ∀o∈os1,o.1≠some b:=fun o ho=>by
  rcases p1 o ho with h|h
  ·exact hnb o h
  ·rw [h];exact fun e=>by cases e
 obtain⟨w',os',r,x1,x2,x3,x4⟩:=Jv (h2:=CL γ) (E:=E) (y:=y) (o:=(none,0)) (val:=a.eval v) st.sat hm ⟨q,hq,hdk,hinj⟩ ⟨G_,hnb1,es,clock,e3,p2,hst⟩ ⟨rfl,Z⟩ (fun e=>by cases e) (fun _ _ _ e=>by cases e);have u_:(execOp a.eval ⟨none,.insert t x i v,ty,pos,after,none⟩).run E.P w= .ok .skip w' :=by simp [execOp,D,V,r]
 refine⟨fun c h=>(by cases h),?_⟩;rw [u_];have hfp' : ∀j,(sr (CL γ) kv b none os' (dC m k y)).fp j->(sr (CL γ) kv b none os m).fp j:=fun j hj=>by
  rcases x4 j hj with(h|⟨o,ho,e⟩)|e
  ·exact .inl h
  ·rcases p1 o ho with h|h
   ·exact .inr ⟨o,h,e⟩
   ·rw [h]at e;cases e
  ·cases e
 exact h os' _ _ S ⟨st.ext.step x1 (fun c hc=>hfp c (.inl hc)),x2,⟨⟨x3,fun j hj=>hfp j (hfp' j hj)⟩,fun f Q j hj=>hap f Q j (hfp' j hj),hO.ext x1 fun f Q j hj hjb=>hap f Q j (.inl hjb) hj⟩,st.facts⟩
end
def isT(b:Bool):Option Unit:=if b then some ()else none
def Vz{b:Bool}{u:Unit}(h:isT b=some u):b=true:=by
 unfold isT at h;split at h
 ·assumption
 ·cases h
def wN{κ β:Type}(γ:β->Ty)(kv:κ->Value)(S:SH):List MapEntry->List (κ×β)->Prop
 |[],[]=>True
 |e::es,q::m=>e.key=kv q.1/\(γ q.2).p S e.val/\(∀p∈m,p.1≠q.1)/\wN γ kv S es m
 |_,_=>False
def zr{κ β:Type}{γ:β->Ty}{kv:κ->Value}{S S' :SH}(h:SH.le S S'): ∀{es:List MapEntry} {m:List (κ×β)},wN γ kv S es m->wN γ kv S' es m
 |[],[],_=>trivial
 |_::_,q::_,⟨D,V,Z,h4⟩=>⟨D,(γ q.2).mono h V,Z,zr h h4⟩
def Qn{κ β:Type} [DecidableEq κ]{γ:β->Ty}{kv:κ->Value}{w:World}{S:SH}: ∀{es:List MapEntry} {os:List (Option Nat×Nat)} {m:List (κ×β)},yq (CL γ) kv w S none es os m->wN γ kv S es m
 |[],[],[],_=>trivial
 |_::_,_::_,_::_,⟨D,V,_,h4,h5⟩=>⟨D,by rw [aZ (by simp)]at V;exact V.2,h4,Qn h5⟩
def QL{κ β:Type} [DecidableEq κ]{γ:β->Ty}{kv:κ->Value}{w:World}{S:SH}: ∀{es:List MapEntry} {m:List (κ×β)},wN γ kv S es m->yq (CL γ) kv w S none es (m.map fun _=>(none,0)) m
 |[],[],_=>trivial
 |_::_,_::_,⟨D,V,Z,h4⟩=>⟨D,by rw [aZ (by simp)];exact⟨rfl,V⟩,fun _ _ _ h=>(by cases h),Z,QL h4⟩
def UR{κ β:Type}(γ:β->Ty)(kv:κ->Value)(m:List (κ×β)):Ty where
 p:=fun S v=> ∃b es clock,v=ni b/\S b=some (.map es clock)/\wN γ kv S es.toList m
 mono:=fun h ⟨b,es,cl,e,D,V⟩=>by
  obtain⟨o',Z,h4⟩:=h b _ D;have h5:o' = .map es cl:=h4;subst h5;exact⟨b,es,cl,e,Z,zr h V⟩
section
variable [DecidableEq κ]{k:κ}{i:Operand}{γ:β->Ty}{dst:Option Nat}{ty:TypeId}
def MR{z:β}(hm:E.P.underlying t=some (.map kt et))(hk:FP E.P kt kv)(hz:ZV E.P et zv)(hzt: ∀S,(γ z).p S zv)(I:aG E.N G x (UR γ kv m))(hi:B3 E.N G i (kv k)):
  ck E O G ⟨dst,.lookup t x i false,ty,pos,after,g⟩ (γ ((jC m k).getD z)):= .of_pure fun a w S hs ho Q=>by
 obtain⟨b,es,clock,D,Z,h4⟩:=I S a Q;obtain⟨o',h5,h6⟩:=hs b _ Z;have h7:o' = .map es clock:=h6;subst h7;obtain⟨q,hq,hd,hinj⟩:=hk;have V:a.eval i=kv k:=hi S a Q;obtain⟨_,_,_,h8⟩:=sw hd hinj (k:=k) 0 (QL (w:=w) h4);rcases h8 with⟨g1,g2⟩|⟨y,o,e,j,g1,g2,g3,g4,g5⟩
 ·refine⟨zv,by simp [execOp,D,V,mZ hm hq (hd k) h5 hz g2],by rw [g1];exact hzt S⟩
 ·refine⟨e.val,by simp [execOp,D,V,mZ hm hq (hd k) h5 hz g4],by rw [g1];exact g3.2⟩
def St.settleMp(h:St E (sr (CL γ) kv b none os m::O) G a w S)(hk:look G j=some (tV (ni b))): ∃S',St E O ((j,UR γ kv m)::G) a w S' :=by
 obtain⟨⟨hn,_,es,clock,Z,h4,_⟩,_⟩:=h.own.1;obtain⟨h8,hle,_,_⟩:=Cj h (.inl rfl) Z (wy _) hn;have hv:a.tmps.getD j undef=ni b:=h.facts.h_ j _ hk;exact⟨_,h8.cons ⟨b,es,clock,hv,by simp [SH.set],zr hle (Qn h4)⟩⟩
def FQ(j:Nat)(hk:look G j=some (tV (ni b)))(h:AT E hf e O ((j,UR γ kv m)::G)):AT E hf e (sr (CL γ) kv b none os m::O) G:=
 fun a w _ st=>let⟨S',st'⟩:=st.settleMp hk;h a w S' st'
end
def tFn(P:Program){α β:Type}(args:α->List Ty)(res:β->Ty)(f:α->Option β):Ty where
 p:=fun S v=> ∀x y,f x=some y-> ∃E_ cap,v= .func (.func E_) #[] cap/\af P E_=true/\ ∀w S' vs,SH.le S S' ->kQ w S' ->yw S' (args x) vs->
  Calls P E_ (vs.toArray++cap) w fun e w' => ∃v S'',e= .returned v/\ji sq w S' w' S'' /\kQ w' S'' /\(res y).p S'' v
 mono:=fun h k x y hxy=>by
  obtain⟨f,cap,e,hc,k⟩:=k x y hxy;exact⟨f,cap,e,hc,fun w S' vs hle=>k w S' vs (SH.le_trans h hle)⟩
def aax{res:β->Ty}{f:α->Option β}(h:aG N G x (iM P args res f)):aG N G x (tFn P args res f):=fun S a Q u y hxy=>by
 obtain⟨E_,cap,e,hc,k⟩:=h S a Q;exact⟨E_,cap,e,hc,fun w S' vs=>k u y hxy w S' vs⟩
def Xh{res:β->Ty}:(tFn P args res (fun _:α=>(none:Option β))).p S v:=fun _ _ h=>by cases h
def Th{ty:TypeId}{res:β->Ty}{f:α->Option β}{fo:Operand}{x:α}{xs:List Operand}(hfo:aG E.N G fo (tFn E.P args res f))(h:f x=some y)(I:k5 E.N G xs (args x)):
  ck E O G ⟨dst,.call ⟨.value fo,xs.toArray,ats⟩,ty,pos,after,g⟩ (res y):=fun a w S hS _ hF=>by
 obtain⟨E_,cap,e,hc,hs⟩:=hfo S a hF x y h;have hr:(execOp a.eval ⟨dst,.call ⟨.value fo,xs.toArray,ats⟩,ty,pos,after,g⟩).run E.P w= .ok (.enter E_ ((xs.map a.eval).toArray++cap)) w:=by
  simp [execOp,resolve,e,Deferred.ofValue,invoke,gT hc]
 refine⟨fun c h=>(by cases h),?_⟩;rw [hr];exact(hs w S _ (SH.le_refl _) hS (I.tys hF)).mono fun e w' ⟨v,S',he,D,V,Z⟩=>⟨v,he,v,S',rfl,D,V,Z⟩
def GS:Nat:=1000000
def tGl{α:Type}(r:Rp α)(x:α)(g:Nat):Ty where
 p:=fun S _=>(aY r x).p S (an g 0)
 mono:=fun h k=>(aY r x).mono h k
def aaO{x:α}{g:Nat}{vs:List Value}(hs:kQ w S)(H:(g,vs)∈glob)(hr: ∀S,r.rc S vs x):(aY r x).p S (an g 0):=by
 obtain⟨c,T,fr,D,V⟩:=hs.gl _ H;refine⟨g,0,c,T,fr,rfl,D,?_⟩;rw [vj,<-r.len (hr S)];have Z:c.toList.take vs.length=vs:=V;rw [Z];exact hr S
section
variable{ty:TypeId}
def VQ{t:Ty}(Q:cH N S a G)(h: ∀v,t.p S v):cH N S a ((GS,t)::G):=⟨Q.size,Q.defers,fun j u hj=>by
 unfold look at hj
 cases K:Nat.beq GS j with
 |true=>
  rw [K]at hj;simp only [cond_true,LO]at hj;rw [<-hj];exact h _
 |false=>
  rw [K]at hj;simp only [cond_false]at hj;exact Q.h_ j u hj⟩
def JX{x:α}{v:Nat}{vs:List Value}{t:Ty}(H:(v,vs)∈glob)(hr: ∀S,r.rc S vs x)(h:ck E O ((GS,tGl r x v)::G) o t):ck E O G o t:=fun a w S hs ho Q=>
 h a w S hs ho (VQ Q fun _=>aaO hs H hr)
def Zu{x:α}{v:Nat}:aG N ((GS,tGl r x v)::G) (.global v) (aY r x):=fun S a Q=>Q.h_ GS (tGl r x v) (by simp [look])
def VH(s:ru)(i:Int):Option Int:=(dm s i).map fun b=>(b.toNat:Int)
def Tg{ix:Operand}{k:IntKind}{i y:Int}(Y:E.P.underlying t=some .string)(I:aG E.N G x (tD rS s))(hi:aG E.N G ix (tD (rI k) i))(hy:VH s i=some y):
  ck E O G ⟨dst,.index t x ix,ty,pos,after,g⟩ (tD (rI .u8) y):= .of_pure fun a w S _ _ Q=>by
 have D:a.eval x= .string ⟨s.toArray⟩:=z6.1 (I S a Q);have V:a.eval ix= .int k i:=gm.1 (hi S a Q);unfold VH at hy
 cases K:dm s i with
 |none=>rw [K]at hy;cases hy
 |some b=>
  rw [K]at hy;obtain⟨g1,g2⟩:=ou K;have o_:i.toNat<s.length:=(oC.1 g2).1;have e:y=(b.toNat:Int):=by simpa using hy.symm
  have k_:(ByteArray.mk s.toArray).size=s.length:=by simp [ByteArray.size]
  refine⟨.int .u8 y,?_,gm.2 rfl⟩;have Z:=run_index_string (P:=E.P) w t ⟨s.toArray⟩ k i Y;rw [dif_pos (by rw [k_];omega)]at Z;have h4:(ByteArray.mk s.toArray)[i.toNat]'(by rw [k_];exact o_)=b:=by
   have:=(oC.1 g2).2;show s.toArray[i.toNat]=b;simpa using this
  simp only [execOp,D,V,uc,Z,vm,GE];rw [h4,e]
end
open Go.MapKept (Stamped)
section
variable [DecidableEq κ]
def HA(h2:MV β)(kv:κ->Value)(b r:Nat)(os:List (Option Nat×Nat))(m:List (κ×β))(left:List κ)(cur:Option κ):OE where
 fp:=fun j=>(j=b\/j=r)\/ ∃o∈os,o.1=some j
 p:=fun w S=>S b=none/\S r=none/\(∀o∈os,o.1≠some b/\o.1≠some r)/\b≠r/\ ∃es clock since seen c0,w.heap[b]? =some (.map es clock)/\yq h2 kv w S none es.toList os m/\Stamped es clock/\
  w.heap[r]? =some (.mapIter (some b) since seen c0)/\(∀x∈es.toList,x.born<since)/\since<=c0/\since<=clock/\(∀x∈es.toList,∀k,x.key=kv k->(k∈left↔seen.contains x.born=false))/\(∀k∈left,∃x∈es.toList,x.key=kv k)/\
  (∀k,cur=some k->c0=clock/\ ∃x∈es.toList,x.key=kv k/\ ∃s0:Array Nat,seen=s0.push x.born)
 here:=by
  intro w S ⟨_,_,_,_,es,clock,since,seen,c0,Z,h4,_,h5,_⟩ j hj;rcases hj with(rfl|rfl)|⟨o,ho,hj⟩
  ·exact(s9.1 Z).1
  ·exact(s9.1 h5).1
  ·exact Bj h4 o ho j hj
 kept:=by
  intro C w w' S S' ⟨D,V,hob,Q_,es,clock,since,seen,c0,Z,h4,hst,h5,h6⟩ k hC;have o_:=(s9.1 Z).1;have hlt2:=(s9.1 h5).1;exact⟨by rw [k.old b o_ (hC b (.inl (.inl rfl)))];exact D,by rw [k.old r hlt2 (hC r (.inl (.inr rfl)))];exact V,hob,Q_,es,clock,since,seen,c0,by rw [k.heap b o_ (hC b (.inl (.inl rfl)))];exact Z,
   wM k h4 (fun o ho j hj=>hC j (.inr ⟨o,ho,hj⟩)),hst,by rw [k.heap r hlt2 (hC r (.inl (.inr rfl)))];exact h5,h6⟩
def tNx(b:Bool):Ty where
 p:=fun _ v=> ∃vs:List Value,v= .tuple (.mk (.bool b::vs))
 mono:=fun _ h=>h
end
section
variable [DecidableEq κ]{r:Nat}{left:List κ}{cur:Option κ}{k:κ}{i v:Operand}{dst:Option Nat}{ty:TypeId}
def Od(hinj: ∀a b,kv a=kv b->a=b)(hm:E.P.underlying t=some (.map kt et))(I:aG E.N G x (tV (ni b)))(hd:Nat.blt d E.N.n=true)
  (k: ∀r,RG E ops hf rest (HA h2 kv b r os m (m.map Prod.fst) none::O) ((d,tV (an r 0))::G)):
  RG E ops hf (⟨some d,.range t x,ty,pos,after,none⟩::rest) (sr h2 kv b none os m::O) G:= .of rfl fun a w S st=>by
 obtain⟨⟨⟨G_,hnb,es,clock,Z,h4,hst⟩,hfp⟩,_⟩:=st.own;have hv:a.eval x=ni b:=I S a st.facts;have o_:=(s9.1 Z).1;have u_:(execOp a.eval ⟨some d,.range t x,ty,pos,after,none⟩).run E.P w= .ok (.value (an w.heap.size 0)) (w.alloc (.mapIter (some b) clock #[] clock)):=by
  simp [execOp,hv,ni,run_range_map w t kt et b es clock hm Z,an]
 refine⟨fun c h=>(by cases h),?_⟩;rw [u_];obtain⟨he,hs',hnn⟩:=gb (w:=w) (.mapIter (some b) clock #[] clock) st.sat;have hx' :ji (fun j=> ∃f∈[sr h2 kv b none os m],f.fp j) w S (w.alloc (.mapIter (some b) clock #[] clock)) S:=he.more fun _ h=>h.elim;have hn0: ∀o∈os,o.1≠some w.heap.size:=fun o ho e=>absurd (Bj h4 o ho _ e) (by omega);have hb2:(w.alloc (.mapIter (some b) clock #[] clock)).heap[b]? =some (.map es clock):=by
  rw [he.heap b o_ (fun h=>h)];exact Z
 refine k w.heap.size _ _ S ((st.turn (O1:=[sr h2 kv b none os m]) (O2:=[HA h2 kv b w.heap.size os m (m.map Prod.fst) none]) hx' hs' ⟨⟨⟨G_,hnn,fun o ho=>⟨hnb o ho,hn0 o ho⟩,by omega,es,clock,clock,#[],clock,hb2,wM he h4 (fun _ _ _ _ h=>h),hst,xU w _,?_,eX _,eX _,?_,?_,fun k hk=>by cases hk⟩,fun _ _=> .inl (kY _)⟩,(fun _ Q=>by cases Q),trivial⟩ ?_).put hd rfl)
 ·exact((MapKept.stamped_iff es clock).1 hst).1
 ·intro y hy k hk;obtain⟨q,hq,hq2⟩:=Bi h4 y hy;have:k=q.1:=hinj _ _ (hk.symm.trans hq2);subst this;simp only [Array.contains_empty,iff_true];exact Bo.2 ⟨q,hq,rfl⟩
 ·intro k hk;obtain⟨q,hq,rfl⟩:=Bo.1 hk;exact Jz h4 q hq
 ·intro j ⟨f,Q,hj⟩;have:f=HA h2 kv b w.heap.size os m (m.map Prod.fst) none:=by simpa using Q
  subst this;rcases hj with(rfl|rfl)|hj
  ·exact .inl ⟨_,GJ _,.inl rfl⟩
  ·exact .inr (eX _)
  ·exact .inl ⟨_,GJ _,.inr hj⟩
def QC(hinj: ∀a b,kv a=kv b->a=b)(I:aG E.N G x (tV (an r 0)))(hd:Nat.blt d E.N.n=true)
  (h0:left=[]->RG E ops hf rest (HA h2 kv b r os m [] cur::O) ((d,tNx false)::G))
  (D: ∀k,k∈left->RG E ops hf rest (HA h2 kv b r os m (left.filter (fun y=>y≠k)) (some k)::O) ((d,tNx true)::G)):
  RG E ops hf (⟨some d,.next x false,ty,pos,after,none⟩::rest) (HA h2 kv b r os m left cur::O) G:= .of rfl fun a w S st=>by
 obtain⟨⟨⟨G_,hnr,hob,Q_,es,clock,since,seen,c0,Z,h4,hst,h5,hold,hsc,hsk,hl1,hl2,hcur⟩,hfp⟩,_⟩:=st.own;have hv:a.eval x=an r 0:=I S a st.facts;rcases run_next_at (P:=E.P) w ty r b since c0 seen es clock h5 Z hold hsc with⟨g0,u_⟩|⟨e,he,w1,hal,u_⟩
 ·have hrun' :(execOp a.eval ⟨some d,.next x false,ty,pos,after,none⟩).run E.P w= .ok (.value (.tuple #[.bool false])) w:=by
   simp [execOp,hv,an,u_]
  refine⟨fun c h=>(by cases h),?_⟩;rw [hrun'];have hleft:left=[]:=by
   cases left with
   |nil=>rfl
   |cons k l=>
    obtain⟨y,hy,hk⟩:=hl2 k (pz ..);have:=(hl1 y hy k hk).1 (pz ..);rw [all_seen es seen g0 y hy]at this;cases this
  subst hleft;exact h0 rfl _ _ S (st.put hd ⟨[],rfl⟩)
 ·have hrun' :(execOp a.eval ⟨some d,.next x false,ty,pos,after,none⟩).run E.P w= .ok (.value (.tuple #[.bool true,e.key,e.val])) (ChangeMaps.setBlock w1 r (.mapIter (some b) since (seen.push e.born) clock)):=by
   simp [execOp,hv,an,u_]
  refine⟨fun c h=>(by cases h),?_⟩;rw [hrun'];obtain⟨hem,hes⟩:=mem_left he;obtain⟨q,_,hkq⟩:=Bi h4 e hem;have hst' :=(MapKept.stamped_iff es clock).1 hst;have hr1:w1.heap[r]? =some (.mapIter (some b) since seen c0):=by rcases hal with rfl|rfl<;>exact h5
  have hb1:w1.heap[b]? =some (.map es clock):=by rcases hal with rfl|rfl<;>exact Z
  have I_:=LN (o' := .mapIter (some b) since (seen.push e.born) clock) hr1;have hoth: ∀j,j≠r->(ChangeMaps.setBlock w1 r (.mapIter (some b) since (seen.push e.born) clock)).heap[j]? =w.heap[j]? :=fun j hj=>(I_.2 j hj).trans (by rcases hal with rfl|rfl<;>rfl);have x_:ji (fun j=>j=r) w S (ChangeMaps.setBlock w1 r (.mapIter (some b) since (seen.push e.born) clock)) S:=by
   refine⟨?_,?_,?_,?_,?_,fun j _ hj=>hoth j hj,SH.le_refl _,fun _ _ _=>rfl⟩
   ·rcases hal with rfl|rfl<;>rfl
   ·rcases hal with rfl|rfl<;>rfl
   ·rcases hal with rfl|rfl<;>rfl
   ·rcases hal with rfl|rfl
    ·exact eX _
    ·exact Nat.le_succ _
   ·have hz:w1.heap.size=w.heap.size:=by rcases hal with rfl|rfl<;>rfl
    show w.heap.size<=(w1.heap.setIfInBounds r _).size;rw [Array.size_setIfInBounds,hz];exact eX _
  have C_:kQ (ChangeMaps.setBlock w1 r (.mapIter (some b) since (seen.push e.born) clock)) S:=st.sat.same fun j o hj=>hoth j (fun ej=>by subst ej;rw [hnr]at hj;cases hj);have hb' :(ChangeMaps.setBlock w1 r (.mapIter (some b) since (seen.push e.born) clock)).heap[b]? =some (.map es clock):=(hoth b Q_).trans Z;refine D q.1 ((hl1 e hem q.1 hkq).2 hes) _ _ S ((st.turn (O1:=[HA h2 kv b r os m left cur]) (O2:=[HA h2 kv b r os m (left.filter (fun y=>y≠q.1)) (some q.1)]) (x_.more fun j hj=>⟨_,GJ _,.inl (.inr hj)⟩) C_ ⟨⟨⟨G_,hnr,hob,Q_,es,clock,since,seen.push e.born,clock,hb',wM x_ h4 (fun o ho j hj ej=>(hob o ho).2 (by rw [hj,ej])),hst,I_.1,hold,hsk,hsk,?_,?_,?_⟩,fun _ _=> .inl (kY _)⟩,(fun _ Q=>by cases Q),trivial⟩ ?_).put hd ⟨[e.key,e.val],rfl⟩)
  ·intro y hy k' hk';have h:=hl1 y hy k' hk';rw [contains_push,IQ,h];by_cases hbe:y.born=e.born
   ·obtain rfl:=born_inj hst'.2.1 hy hem hbe;have:k' =q.1:=hinj _ _ (hk'.symm.trans hkq);subst this;simp
   ·have hk2:k' ≠q.1:=fun hk=>hbe (congrArg MapEntry.born (entry_eq_of_key hst'.2.2 hy hem (by rw [hk',hkq,hk])));simp [hk2,hbe]
  ·intro k' hk';exact hl2 k' (IQ.1 hk').1
  ·intro k' hk';cases hk';exact⟨rfl,e,hem,hkq,seen,rfl⟩
  ·intro j ⟨f,Q,hj⟩;have:f=HA h2 kv b r os m (left.filter (fun y=>y≠q.1)) (some q.1):=by simpa using Q
   subst this;exact .inl ⟨_,GJ _,hj⟩
def y7{f:Bool}(I:aG E.N G x (tNx f)):ck E O G ⟨dst,.extract x 0,ty,pos,after,g⟩ (tD rB f):=
 .of_pure fun a w S _ _ Q=>by
  obtain⟨vs,D⟩:=I S a Q;exact⟨.bool f,by simp [execOp,D,Instr.extract],jN.2 rfl⟩
def TM{k:κ}{l:List κ}(h:k∈l):(l.filter (fun y=>y≠k)).length<l.length:=by
 rw [List.length_filter_lt_length_iff_exists];exact⟨k,h,by simp⟩
omit [DecidableEq κ]in
def Zc{h3:List κ->Prop}{Of:List κ->Option κ->List OE}{Gf:oz}(h: ∀l cur,h3 l->(∀l2 c2,l2.length<l.length->h3 l2->LG E hf c (Of l2 c2) Gf)->LG E hf c (Of l cur) Gf)(l:List κ)(cur:Option κ)(hz:h3 l):LG E hf c (Of l cur) Gf:=by
 have key: ∀(n:Nat) (l:List κ) (cur:Option κ),l.length<=n->h3 l->LG E hf c (Of l cur) Gf:=by
  intro n
  induction n with
  |zero=>intro l cur hn hz;exact h l cur hz fun l2 c2 V _=>absurd V (by omega)
  |succ n ih=>intro l cur hn hz;exact h l cur hz fun l2 c2 V hz2=>ih l2 c2 (by omega) hz2
 exact key l.length l cur (eX _) hz
end
open Go.RowKit
def TO(hs:kQ w S)(h:Below w.heap.size w w')(hd:w.drawn<=w'.drawn):ji sq w S w' S/\kQ w' S:=
 ⟨⟨h.os,h.tape,h.output,hd,h.size,fun k hk _=>h.block k hk,SH.le_refl _,fun _ _ _=>rfl⟩,hs.same fun b o K=>h.block b (hs.lt K)⟩
def N7{f:FuncId}{t:ru}(h: ∀w:World,SI w->Calls P f #[.string ⟨s.toArray⟩] w fun e w' =>e= .returned (.string ⟨t.toArray⟩)/\Below w.heap.size w w'):cN P f [tD rS s] (tD rS t):=fun w S vs hs hv=>by
 match vs,hv with
 |[v],⟨D,_⟩=>
  obtain rfl:=z6.1 D;refine(N1 (h w hs.tab) (fun w' hr=>by cases hr.1)).mono fun e w' ⟨⟨he,K⟩,hd⟩=>?_;obtain⟨k1,k2⟩:=TO hs K hd;exact⟨_,S,he,k1,k2,z6.2 rfl⟩
def Da{k:IntKind}{S:SH}: ∀{xs:List Int} {cs:List Value},vq (rI k) S cs xs->cs=xs.map (Value.int k)
 |[],cs,h=>by rw [show cs=[]from h];rfl
 |x::xs,cs,⟨a,b,e,D,V⟩=>by
  rw [e,show a=[.int k x]from D,Da V];rfl
section
variable{ty:TypeId}
def Te{e:TypeId}(ha:E.P.underlying t=some (.array n e))(ti:TI E.P e sz bytes agg z)(hn:Nat.ble n maxLen=true)(I:aG E.N G x (aY (sj r n) xs)):ck E O G ⟨dst,.slice t x none none none,ty,pos,after,g⟩ (tD (eW r) xs):= .of_pure fun a w S _ _ Q=>by
 obtain⟨b,off,c,T,fr,D,V,Z,h4⟩:=I S a Q;have hz:(⟨b,off,none⟩:Addr).add 0=⟨b,off,none⟩:=by rw [kL,wV]
 refine⟨.slice (some ⟨b,off,none⟩) n n,?_,oV.2 ⟨_,_,by rw [Z],by omega,rx hn,.inr ⟨b,off,c,T,fr,rfl,V,by rw [Z];exact h4⟩⟩⟩;by_cases h0:n=0
 ·subst h0;simp [execOp,D,Instr.sliceAt,lc ha,ti.sizeOf,Instr.sliceBounds,Instr.sureAddr]
 ·simp [execOp,D,Instr.sliceAt,lc ha,ti.sizeOf,Instr.sliceBounds,Instr.sureAddr,h0,hz]
def Jr{y:α}{ix:Operand}{e:TypeId}{k:IntKind}{i:Int}(Y:E.P.underlying t=some (.array n e))(ti:TI E.P e sz bytes agg z)(k_:r.sz=sz)(hag:r.agg=agg)(I:aG E.N G x (tD (sj r n) xs))(hi:aG E.N G ix (tD (rI k) i))(hy:dm xs i=some y):ck E O G ⟨dst,.index t x ix,ty,pos,after,g⟩ (tD r y):= .of_pure fun a w S _ _ Q=>by
 obtain⟨cs,D,V,Z⟩:=I S a Q;have h1' :a.eval x= .agg cs.toArray:=D;have h4:a.eval ix= .int k i:=gm.1 (hi S a Q);obtain⟨g1,g2⟩:=ou hy;have o_:i.toNat<xs.length:=(oC.1 g2).1;have H:=Gn Z g2;have hin:0<=i/\i<(n:Int):=⟨g1,by omega⟩;refine⟨r.val ((cs.drop (i.toNat*r.sz)).take r.sz),?_,_,rfl,H⟩;have hp:(part e cs.toArray (i.toNat*sz)).run E.P w= .ok (r.val ((cs.drop (i.toNat*r.sz)).take r.sz)) w:=by
  subst k_;subst hag;have hl:=r.len H;unfold part;simp only [uc,ti.isAgg,vm]
  cases hA:r.agg with
  |true=>
   simp [ti.sizeOf,Rp.val,hA]
  |false=>
   have D:=r.sc hA;rw [D,Nat.mul_one]at hl ⊢
   cases hd:cs.drop i.toNat with
   |nil=>rw [hd]at hl;simp at hl
   |cons v l=>
    have hv:cs[i.toNat]? =some v:=by
     have:=xT (xs:=cs) (i:=i.toNat) (j:=0);rw [hd]at this;simpa using this.symm
    simp [Rp.val,hA,hv]
 simp [execOp,h1',h4,Instr.index,asIntOf,lc Y,hin,ti.sizeOf,hp]
def vV(s:ru)(i:Nat):Nat×Nat:=Utf8.decode ⟨s.toArray⟩ i
def wo(s:ru):Nat->Nat->List (Int×Int)
 |0,_=>[]
 |f+1,i=>if i<s.length then((i:Int),((vV s i).1:Int))::wo s f (i+(vV s i).2)else []
def Mw(s:ru):List (Int×Int):=wo s (s.length+1) 0
def YO(s:ru)(i:Nat):1<=(vV s i).2:=by
 unfold vV Utf8.decode;simp only [];repeat' split
 all_goals simp
def Ip(r:Nat)(s:ru)(left:List (Int×Int)):OE where
 fp:=fun j=>j=r
 p:=fun w S=>S r=none/\ ∃pos f,w.heap[r]? =some (.stringIter ⟨s.toArray⟩ pos)/\left=wo s f pos/\s.length<pos+f
 here:=by
  rintro w S ⟨_,pos,f,h,_⟩ j rfl;exact(s9.1 h).1
 kept:=by
  rintro C w w' S S' ⟨h0,pos,f,h,V⟩ k hC;have o_:=(s9.1 h).1;exact⟨by rw [k.old r o_ (hC r rfl)];exact h0,pos,f,by rw [k.heap r o_ (hC r rfl)];exact h,V⟩
def Oc(Y:E.P.underlying t=some .string)(I:aG E.N G x (tD rS s))(hd:Nat.blt d E.N.n=true)(k: ∀r,RG E ops hf rest (Ip r s (Mw s)::O) ((d,tV (an r 0))::G)):RG E ops hf (⟨some d,.range t x,ty,pos,after,none⟩::rest) O G:= .of rfl fun a w S st=>by
 have hv:a.eval x= .string ⟨s.toArray⟩:=z6.1 (I S a st.facts);have u_:(execOp a.eval ⟨some d,.range t x,ty,pos,after,none⟩).run E.P w= .ok (.value (an w.heap.size 0)) (w.alloc (.stringIter ⟨s.toArray⟩ 0)):=by
  simp [execOp,hv,Instr.range,lc Y,an]
 refine⟨fun c h=>(by cases h),?_⟩;rw [u_];obtain⟨he,hs',G_⟩:=gb (w:=w) (.stringIter ⟨s.toArray⟩ 0) st.sat;exact k w.heap.size _ _ S ⟨st.ext.step0 he,hs',rR st.own he ⟨G_,0,s.length+1,xU w _,rfl,by omega⟩ (fun b K=>by rw [show b=_ from K];exact eX _) st.H_,st.facts.put hd rfl⟩
def QB{r:Nat}{left:List (Int×Int)}(I:aG E.N G x (tV (an r 0)))(hd:Nat.blt d E.N.n=true)(h0:left=[]->RG E ops hf rest (Ip r s []::O) ((d,tNx false)::G))(D: ∀e l,left=e::l->RG E ops hf rest (Ip r s l::O) ((d,tT [tD rB true,tD (rI .i64) e.1,tD (rI .i32) e.2])::G)):
  RG E ops hf (⟨some d,.next x true,ty,pos,after,none⟩::rest) (Ip r s left::O) G:= .of rfl fun a w S st=>by
 obtain⟨⟨⟨G_,ps,f,K,hl,Q⟩,hfp⟩,hap,hO⟩:=st.own;have hv:a.eval x=an r 0:=I S a st.facts;have k_:(ByteArray.mk s.toArray).size=s.length:=by simp [ByteArray.size]
 have H:(getObj r).run E.P w= .ok (.stringIter ⟨s.toArray⟩ ps) w:=by
  simp [getObj,Sem.run,K]
 by_cases hp:ps<s.length
 ·obtain⟨f,rfl⟩: ∃f',f=f' +1:=⟨f-1,by omega⟩;have hl2:left=((ps:Int),((vV s ps).1:Int))::wo s f (ps+(vV s ps).2):=by rw [hl,wo,bq hp]
  have I_:(setObj r (.stringIter ⟨s.toArray⟩ (ps+(vV s ps).2))).run E.P w= .ok () {w with heap:=w.heap.setIfInBounds r (.stringIter ⟨s.toArray⟩ (ps+(vV s ps).2))}:=by
   simp [setObj,Sem.run,K]
  have u_:(execOp a.eval ⟨some d,.next x true,ty,pos,after,none⟩).run E.P w= .ok (.value (.tuple #[.bool true,.int .i64 ps,.int .i32 (vV s ps).1])) {w with heap:=w.heap.setIfInBounds r (.stringIter ⟨s.toArray⟩ (ps+(vV s ps).2))}:=by
   have Z:(Instr.next (an r 0) true ty).run E.P w= .ok (.tuple #[.bool true,.int .i64 ps,.int .i32 (vV s ps).1]) {w with heap:=w.heap.setIfInBounds r (.stringIter ⟨s.toArray⟩ (ps+(vV s ps).2))}:=by
    unfold Instr.next an;simp only [uc,H,vm,k_,hp,mF];rw [show Utf8.decode ⟨s.toArray⟩ ps=vV s ps from rfl];simp only [uc,I_,vm];rfl
   simp [execOp,hv,Z]
  refine⟨fun c h=>(by cases h),?_⟩;rw [u_];have hblt:=(s9.1 K).1;have hx' :ji (fun k=> ∃f∈[Ip r s left],f.fp k) w S {w with heap:=w.heap.setIfInBounds r (.stringIter ⟨s.toArray⟩ (ps+(vV s ps).2))} S:=
   ⟨rfl,rfl,rfl,eX _,by simp,fun k _ hk=>by
    have:r≠k:=fun e=>hk ⟨_,GJ _,e.symm⟩;simp [this],SH.le_refl _,fun _ _ _=>rfl⟩
  have hs' :kQ {w with heap:=w.heap.setIfInBounds r (.stringIter ⟨s.toArray⟩ (ps+(vV s ps).2))} S:=st.sat.same fun k o hk=>by
   have:r≠k:=fun e=>by subst e;rw [G_]at hk;cases hk
   simp [this]
  have hnew:(Ip r s (wo s f (ps+(vV s ps).2))).p {w with heap:=w.heap.setIfInBounds r (.stringIter ⟨s.toArray⟩ (ps+(vV s ps).2))} S:=
   ⟨G_,_,f,by simp [hblt],rfl,by have:=YO s ps;omega⟩
  refine D _ _ hl2 _ _ S ((st.turn (O1:=[Ip r s left]) (O2:=[Ip r s (wo s f (ps+(vV s ps).2))]) hx' hs' ⟨⟨hnew,fun k hk=> .inl (kY _)⟩,fun _ h=>(by cases h),trivial⟩ (fun k ⟨g,H,hk⟩=>?_)).put hd ?_)
  ·have:g=Ip r s (wo s f (ps+(vV s ps).2)):=by simpa using H
   subst this;exact .inl ⟨_,GJ _,hk⟩
  ·exact⟨[.bool true,.int .i64 ps,.int .i32 (vV s ps).1],rfl,jN.2 rfl,gm.2 rfl,gm.2 rfl,trivial⟩
 ·have hl2:left=[]:=by
   rw [hl]
   cases f with
   |zero=>rfl
   |succ f=>rw [wo,aZ hp]
  have u_:(execOp a.eval ⟨some d,.next x true,ty,pos,after,none⟩).run E.P w= .ok (.value (.tuple #[.bool false])) w:=by
   have Z:(Instr.next (an r 0) true ty).run E.P w= .ok (.tuple #[.bool false]) w:=by
    unfold Instr.next an;simp only [uc,H,vm,k_,hp,lS];rfl
   simp [execOp,hv,Z]
  refine⟨fun c h=>(by cases h),?_⟩;rw [u_];subst hl2;exact h0 rfl _ _ S (st.put hd ⟨[],rfl⟩)
def BU{t:Ty}{u:List Ty}{i:Nat}(hu:u[i]? =some t)(I:aG E.N G x (tT u)):ck E O G ⟨dst,.extract x i,ty,pos,after,g⟩ t:=Hw hu I
def ach{h3:List β->Prop}{Of:List β->List OE}{Gf:oz}(h: ∀l,h3 l->(∀l2,l2.length<l.length->h3 l2->LG E hf c (Of l2) Gf)->LG E hf c (Of l) Gf)(l:List β)(hz:h3 l):LG E hf c (Of l) Gf:=by
 have key: ∀(n:Nat) (l:List β),l.length<=n->h3 l->LG E hf c (Of l) Gf:=by
  intro n
  induction n with
  |zero=>intro l hn hz;exact h l hz fun l2 V _=>absurd V (by omega)
  |succ n ih=>intro l hn hz;exact h l hz fun l2 V hz2=>ih l2 (by omega) hz2
 exact key l.length l (eX _) hz
end
abbrev NG:=Nat->(Option Nat×Nat)×(Nat->Option Nat×Nat)
inductive NPl where
 |o
 |i (k:Nat)
 |l (k j:Nat)
section
def TC(q:Nat->Option Nat×Nat)(zs:List (List α)):List Value:=zs.mapIdx fun j z=>ak (q j).1 (q j).2 z.length
def hd1(prj:β->List (List α))(g:NG)(x:List β):List Value:=x.mapIdx fun k y=>ak (g k).1.1 (g k).1.2 (prj y).length
def nsB(prj:β->List (List α))(l:Option Nat)(g:NG)(x:List β)(h:Option (Nat×Nat)):NPl->Option Nat
 | .o=>l
 | .i k=>(x[k]?).bind fun _=>(g k).1.1
 | .l k j=>if h=some (k,j)then none else((x[k]?).bind fun y=>(prj y)[j]?).bind fun _=>((g k).2 j).1
structure nstP(prj:β->List (List α))(r:Rp α)(T1 T2 T3:TypeId)(l:Option Nat)(cap n:Nat)(g:NG)(x:List β)(h:Option (Nat×Nat))(w:World)(S:SH):Prop where
 len:x.length=n
 out:AP false rV T1 l cap (hd1 prj g x) w S
 inn: ∀k y,x[k]? =some y->AP false rV T2 (g k).1.1 (g k).1.2 (TC (g k).2 (prj y)) w S
 lvs: ∀k y j z,x[k]? =some y->(prj y)[j]? =some z->h≠some (k,j)->AP true r T3 ((g k).2 j).1 ((g k).2 j).2 z w S
 inj: ∀s t b,nsB prj l g x h s=some b->nsB prj l g x h t=some b->s=t
variable{prj:β->List (List α)}{T1 T2 T3:TypeId}{l:Option Nat}{g:NG}{x:List β}{h:Option (Nat×Nat)}
def R7{α:Type}{r:Rp α}{l:Option Nat}{cap:Nat}{xs:List α}(k:AP mm r T l cap xs w S)(K:l=some b):b<w.heap.size:=(nU mm r T l cap xs).here k b K
def JU{α:Type}{r:Rp α}{l:Option Nat}{cap:Nat}{xs:List α}{C:Nat->Prop}(k:AP mm r T l cap xs w S)(e:ji C w S w' S')(hC: ∀b,l=some b-> ¬C b):AP mm r T l cap xs w' S' :=(nU mm r T l cap xs).kept k e hC
end
section
variable{prj:β->List (List α)}{T1 T2 T3:TypeId}{l:Option Nat}{g:NG}{x:List β}{h:Option (Nat×Nat)}
variable{ty:TypeId}{gd:Option (Nat×Bool)}
open Classical in
noncomputable def aeP(w:World)(S:SH)(P:Nat->Prop):SH:=fun b=>if P b then w.heap[b]? else S b
def g0(hs:List (Option Nat×Nat)):NG:=fun k=>(hs.getD k (none,0),fun _=>(none,0))
def Xb(l:Option Nat)(q:Nat->Option Nat×Nat)(zs:List (List α))(h:Option Nat):Option Nat->Option Nat
 |none=>l
 |some j=>if h=some j then none else(zs[j]?).bind fun _=>(q j).1
structure aeU(r:Rp α)(T2 T3:TypeId)(l:Option Nat)(cap n:Nat)(q:Nat->Option Nat×Nat)(zs:List (List α))(h:Option Nat)(w:World)(S:SH):Prop where
 len:zs.length=n
 inn:AP false rV T2 l cap (TC q zs) w S
 lvs: ∀j z,zs[j]? =some z->h≠some j->AP true r T3 (q j).1 (q j).2 z w S
 inj: ∀s t b,Xb l q zs h s=some b->Xb l q zs h t=some b->s=t
variable{q:Nat->Option Nat×Nat}{zs:List (List α)}{k:Option Nat}
def aaq{z:List α}(hz:zs[j]? =some z)(hh:k≠some j):Xb l q zs k (some j)=(q j).1:=by simp [Xb,hz,hh]
def aap(K:Xb l q zs k (some j)=some b):k≠some j/\ ∃z,zs[j]? =some z/\(q j).1=some b:=by
 by_cases hh:k=some j
 ·simp [Xb,hh]at K
 ·refine⟨hh,?_⟩
  cases hz:zs[j]? with
  |none=>simp [Xb,hz,hh]at K
  |some z=>exact⟨z,rfl,by simpa [Xb,hz,hh] using K⟩
def tab(r:Rp α)(T2 T3:TypeId)(l:Option Nat)(cap n:Nat)(q:Nat->Option Nat×Nat)(zs:List (List α))(h:Option Nat):OE where
 fp:=fun b=> ∃s,Xb l q zs h s=some b
 p:=aeU r T2 T3 l cap n q zs h
 here:=by
  rintro w S k b ⟨s,K⟩
  cases s with
  |none=>exact R7 k.inn K
  |some j=>obtain⟨h0,z,D,V⟩:=aap K;exact R7 (k.lvs j z D h0) V
 kept:=fun{C w w' S S'} k e hC=>⟨k.len,JU k.inn e fun b K=>hC b ⟨none,K⟩,fun j z hz hh=>JU (k.lvs j z hz hh) e fun b K=>hC b ⟨some j,by rw [aaq hz hh];exact K⟩,k.inj⟩
end
