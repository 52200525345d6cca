/- eJ of this claim: W17, W18, W19, W20, W22, W23, W24, W25, W26, W28, W30, W31, W32, W33, W34, W35. -/
import Derived.Test.YtpgjgkdpeagjbaaGreatDoorJaV1
import Derived.RangeFuncRecord
import Derived.RangeFuncLeaves
import Derived.Laws.StructEq
import Derived.Lib.ConvBytes
import Derived.Lib.AppendZeros
import Derived.Laws.MakeOwn
import Derived.MapKept
import Derived.Scope
import Derived.ChangeKeysEq
set_option linter.all false
namespace Go.Proofs.YtpgjgkdpeagjbaaGreatDoor
open Go

abbrev It(α:Type):=(σ:Type)->(α->σ->Option (Bool×σ))->σ->Option σ

def tu(Se:SH)(aK:List OE):OE where
 fp:=fun k=> ∃f∈aK,f.fp k
 p:=fun w S=>SH.le Se S/\dN 0 s0 w S aK
 here:=fun⟨_,h⟩ _ ⟨f,hf,hk⟩=>f.here (dN.mem h f hf).1 _ hk
 kept:=fun⟨I,K⟩ k hC=>⟨SH.le_trans I k.keep,K.ext k fun f hf b M=>hC b ⟨f,hf,M⟩⟩
variable{B:Nat->Prop}{aK:List OE}{S:SH}{base:Nat}{w:World}
def dN.weak: ∀{aK:List OE},dN base B w S aK->dN 0 s0 w S aK
 |[],_=>trivial
 |_::_,⟨I,K,h3⟩=>⟨⟨I.1,fun _ _=> .inl (lG _)⟩,K,dN.weak h3⟩
variable{f:FuncId}{k:IntKind}
def mw: ∀{aK:List OE},dN 0 s0 w S aK->(∀f∈aK,∀k,f.fp k->base<=k\/B k)->dN base B w S aK
 |[],_,_=>trivial
 |_::_,⟨I,K,h3⟩,h=>⟨⟨I.1,h _ (mp ..)⟩,K,mw h3 fun f hf=>h f (lT _ hf)⟩
def zc(l:Nat)(r:Loop)(st:LoopState):OE where
 fp:=fun k=>k=l
 p:=fun w S=>S l=none/\w.heap[l]? =some (.loop {r with state:=st,pending:=none})
 here:=by
  intro w S h k hk
  subst hk
  exact(yL.1 h.2).1
 kept:=by
  intro C w w' S S' h k hC
  have hlt:=(yL.1 h.2).1
  exact⟨by rw [k.old l hlt (hC l rfl)];exact h.1,by rw [k.heap l hlt (hC l rfl)];exact h.2⟩
def E9(b:Nat):OE where
 fp:=fun k=>k=b
 p:=fun w S=>S b=none/\w.heap[b]? =some (.deferred (some []))
 here:=by
  intro w S h k hk
  subst hk
  exact(yL.1 h.2).1
 kept:=by
  intro C w w' S S' h k hC
  have hlt:=(yL.1 h.2).1
  exact⟨by rw [k.old b hlt (hC b rfl)];exact h.1,by rw [k.heap b hlt (hC b rfl)];exact h.2⟩
def AL(b:Nat):Deferred:={target:= .collected b,args:= #[]}

def Yld(P:Program){α σ:Type}(args:α->List Ty)(y:α->σ->Option (Bool×σ))(h1:σ->OE->Prop)(yv:Value):Prop:=
 ∃l,yv= .func (.yield l) #[] #[]/\ ∀x s r,y x s=some r-> ∀e,h1 s e-> ∀w S vs,lF w S->e.p w S->Aa S (args x) vs->
  ∃f tmps assign body,(Instr.yield l vs.toArray).run P w= .ok (.round l f tmps assign body) w/\
   RoundIn (fw none) 0 P l f tmps assign body w fun en w' => ∃e' S',en= .returned (.bool r.1)/\h1 r.2 e' /\jh e.fp w S w' S' /\lF w' S' /\e'.p w' S' /\ ∀k,e'.fp k->e.fp k\/w.heap.size<=k
def WO(P:Program){α:Type}(args:α->List Ty)(it:It α)(fid:FuncId)(cap:Array Value)(fp:Nat->Prop)(w:World)(S:SH):Prop:=
 ∀(σ:Type) (y:α->σ->Option (Bool×σ)) (s s' :σ),it σ y s=some s' -> ∀h1 yv,Yld P args y h1 yv-> ∀e,h1 s e->e.p w S->(∀k,e.fp k-> ¬fp k)->
  Calls P fid (#[yv]++cap) w fun en w' => ∃e' S',(∃v,en= .returned v)/\h1 s' e' /\jh (fun k=>e.fp k\/fp k) w S w' S' /\lF w' S' /\e'.p w' S' /\ ∀k,e'.fp k->e.fp k\/w.heap.size<=k
def itr(P:Program){α:Type}(args:α->List Ty)(it:It α)(v:Value)(fp:Nat->Prop):OE where
 fp:=fp
 p:=fun w S=>(∀k,fp k->k<w.heap.size)/\ ∃fid cap,v= .func (.func fid) #[] cap/\aj P fid=true/\
  ∀C w' S',jh C w S w' S' ->(∀k,fp k-> ¬C k)->lF w' S' ->WO P args it fid cap fp w' S'
 here:=fun h k hk=>h.1 k hk
 kept:=by
  rintro C w w' S S' ⟨I,fid,cap,K,h3,h4⟩ k hC
  refine⟨fun b M=>Ad (I b M) k.size,fid,cap,K,h3,fun C' w'' S'' k' hC' hs=>?_⟩;exact h4 (fun b=>C b\/C' b) w'' S'' ((k.more fun b M=> .inl M).trans (k'.more fun b M=> .inr M)) (fun b M h=>h.elim (hC b M) (hC' b M)) hs

def C8(P:Program)(fid:FuncId){α:Type}(args:α->List Ty)(it:It α)(aK:List OE)(cts:List Ty):Prop:=
 ∀w S cap,lF w S->dN 0 s0 w S aK->Aa S cts cap->WO P args it fid cap.toArray (fun k=> ∃f∈aK,f.fp k) w S
def acG(E:En){σ:Type}(h1:σ->OE->Prop)(s:σ)(e0:OE):Ending->World->Prop:=fun en w' => ∃e' S',(∃v,en= .returned v)/\h1 s e' /\jh E.B E.w0 E.S0 w' S' /\lF w' S' /\e'.p w' S' /\ ∀k,e'.fp k->e0.fp k\/E.w0.heap.size<=k
variable{σ:Type}{h1:σ->OE->Prop}{N:Nat}{P:Program}{S' S0:SH}{α:Type}{args:α->List Ty}{b:Nat}{c:Code}{cap:Nat}{cts:List Ty}{e:TypeId}{fn:Func}{it:It α}{n:Nat}{s:σ}{ts:List Ty}{w' w0:World}{y:α}
def C8.of(hf:P.funcs[f]? =some fn)(M:fn.body=some c)(hN:fn.ntmps=N)(hn:Nat.ble (cts.length+1) N=true)(h: ∀(σ:Type) (y:α->σ->Option (Bool×σ)) (s s' :σ),it σ y s=some s' -> ∀h1 yv,Yld P args y h1 yv-> ∀e,h1 s e-> ∀w0 S0 B,(∀k,B k->e.fp k\/ ∃f∈aK,f.fp k)->
   CG ⟨P,⟨N,[]⟩,B,w0,S0,none⟩ (bodyPost P fn (acG ⟨P,⟨N,[]⟩,B,w0,S0,none⟩ h1 s' e)) c (e::aK) (vh 0 (tV yv::cts))):C8 P f args it aK cts:=by
 subst hN
 intro w S cap hs ho hc σ y s s' hit h1 yv hy e he hep hap
 have hown:dN w.heap.size (fun k=>e.fp k\/ ∃f∈aK,f.fp k) w S (e::aK):=
  ⟨⟨hep,fun k hk=> .inr (.inl hk)⟩,fun f hf b M hfb=>hap b M ⟨f,hf,hfb⟩,mw ho fun f hf k hk=> .inr (.inr ⟨f,hf,hk⟩)⟩
 have hfacts:=oR (S:=S) (ts:=tV yv::cts) (vs:=yv::cap) ⟨rfl,hc⟩ fn.ntmps (by simpa using rL hn)
 have:=lE.1 (GP (F:=fw none) (n:=0) hf M trivial (h σ y s s' hit h1 yv hy e he w S (fun k=>e.fp k\/ ∃f∈aK,f.fp k) (fun _ h=>h) _ w S ⟨jh.refl _ _ _,hs,hown,hfacts⟩))
 rw [show(#[yv]++cap.toArray:Array Value)=(yv::cap).toArray from by simp]
 exact this.mono fun en w' ⟨e',S',I,K,h3,h4,h5,h6⟩=>⟨e',S',I,K,h3,h4,h5,h6⟩
variable{E:En}{G:nt}{aJ:Exit->Act->World->Prop}{a:Act}{after:Array Edge}{ats:Array TypeId}{d:Nat}{l:Option Nat}{ops:Array Oper}{pos:String}{r:Rp α}{rest:List Oper}{x:Operand}{xs:List α}
section
variable{ty:TypeId}
def Va{e e' :OE}{aK:List OE}(h:dN base B w S (e::aK))(k:jh e.fp w S w' S')(hp:e'.p w' S')(hn: ∀b,e'.fp b->e.fp b\/w.heap.size<=b)(M:base<=w.heap.size):dN base B w' S' (e' ::aK):=
 ⟨⟨hp,fun b hb' =>(hn b hb').elim (fun K=>h.1.2 b K) (fun K=> .inl (by omega))⟩,fun f hf b hb' hfb=>(hn b hb').elim (fun K=>h.2.1 f hf b K hfb) (fun K=>by
  have:=f.here (dN.mem h.2.2 f hf).1 b hfb
  omega),h.2.2.ext k fun f hf b hb' K=>h.2.1 f hf b K hb'⟩
def IS{y:α->σ->Option (Bool×σ)}{yv:Value}{x:α}{r:Bool×σ}{e:OE}{fo:Operand}{xs:List Operand}(hy:Yld E.P args y h1 yv)(he:h1 s e)(hq:y x s=some r)(hf:bk E.N G fo (tV yv))(V:kp E.N G xs (args x))(hd:Nat.blt d E.N.n=true)(k: ∀e',h1 r.2 e' ->RG E ops aJ rest (e' ::aK) ((d,tD rB r.1)::G)):RG E ops aJ (⟨some d,.call ⟨.value fo,xs.toArray,ats⟩,ty,pos,after,none⟩::rest) (e::aK) G:= .of rfl fun a w S st=>by
 obtain⟨l,rfl,hyl⟩:=hy
 have I:a.eval fo= .func (.yield l) #[] #[]:=hf S a st.facts
 obtain⟨f,tmps,assign,body,K,h3⟩:=hyl x s r hq e he w S _ st.sat st.own.1.1 (V.tys st.facts)
 have hr:(execOp a.eval ⟨some d,.call ⟨.value fo,xs.toArray,ats⟩,ty,pos,after,none⟩).run E.P w= .ok (.round l f tmps assign body) w:=by
  simp [execOp,resolve,I,Deferred.ofValue,invoke]
  simpa using K
 refine⟨fun c h=>(by cases h),?_⟩
 rw [hr]
 refine h3.mono fun en w' ⟨e',S',h4,h5,h6,h7,h8,h9⟩=>⟨_,h4,?_⟩;exact k e' h5 _ _ S' ⟨st.ext.step h6 (fun b M=>st.own.1.2 b M),h7,Va st.own h6 h8 h9 st.base_le,(st.facts.mono h6.keep).put hd (ko.2 rfl)⟩
end
def Kv:List OE->List OE->Prop
 |[],_=>True
 |f::aK,g::O' =>(∀k,f.fp k->g.fp k)/\Kv aK O'
 |_::_,[]=>False
variable{O' :List OE}{g:Option (Nat×Bool)}{β:Type}{q:Rp β}
def Kv.mem: ∀{aK O' :List OE},Kv aK O' -> ∀k,(∃f∈aK,f.fp k)-> ∃f∈O',f.fp k
 |f::aK,g::O',⟨I,K⟩,k,⟨q,hq,hk⟩=>by
  rcases gW.1 hq with e|e
  ·subst e;exact⟨g,mp ..,I k hk⟩
  ·obtain⟨q',h3,h4⟩:=Kv.mem K k ⟨q,e,hk⟩
   exact⟨q',lT _ h3,h4⟩
def MY{e0 e:OE}{O0:List OE}(hr:fn.results= #[])(he:h1 s e)(hB: ∀k,B k->e0.fp k\/ ∃f∈O0,f.fp k)(hO:Kv O0 aK):
  AT ⟨P,⟨N,[]⟩,B,w0,S0,none⟩ (bodyPost P fn (acG ⟨P,⟨N,[]⟩,B,w0,S0,none⟩ h1 s e0)) .ret (e::aK) G:=fun _ _ S st=>
 ⟨st.facts.defers,_,ya P fn hr _ _,e,S,⟨_,rfl⟩,he,st.ext,st.sat,st.own.1.1,fun k hk=>(st.own.1.2 k hk).elim .inr fun M=>(hB k M).elim .inl fun V=>let⟨f,hf,hfk⟩:=hO.mem k V;absurd hfk (st.own.2.1 f hf k hk)⟩
def PC{e0 e:OE}{O0:List OE}(hr:fn.results= #[])(he:h1 s e)(hB: ∀k,B k->e0.fp k\/ ∃f∈O0,f.fp k)(hO:Kv O0 aK):
  AT ⟨P,⟨N,[]⟩,B,w0,S0,none⟩ (bodyPost P fn (acG ⟨P,⟨N,[]⟩,B,w0,S0,none⟩ h1 s e0)) .normal (e::aK) G:=fun a w S st=>MY hr he hB hO a w S st

variable{O1:List OE}{ι:Type}{O2:ι->List OE}
def pO: ∀{O1 O2:List OE},dN base B w S (O1++O2)->dN base B w S O1/\dN base B w S O2/\ ∀e∈O1,∀f∈O2,e.apart f
 |[],_,h=>⟨trivial,h,fun _ h=>(by cases h)⟩
 |e::O1,O2,⟨I,K,h3⟩=>by
  obtain⟨k1,k2,k3⟩:=pO h3
  refine⟨⟨I,fun f hf=>K f (JO _ hf),k1⟩,k2,fun g H f hf=>?_⟩
  rcases gW.1 H with rfl|H
  ·exact K f (List.mem_append_right _ hf)
  ·exact k3 g H f hf
def dN.cons{e:OE}(I:e.holds base B w S)(K: ∀f∈aK,e.apart f)(h3:dN base B w S aK):dN base B w S (e::aK):=⟨I,K,h3⟩

def C1(P:Program)(f:FuncId)(ts:List Ty){α:Type}(args:α->List Ty)(it:It α):Prop:=
 ∀w S vs,lF w S->Aa S ts vs->Calls P f vs.toArray w fun e w' => ∃v fp S',e= .returned v/\jh s0 w S w' S' /\lF w' S' /\(itr P args it v fp).holds w.heap.size s0 w' S'
def aao(E:En){α:Type}(args:α->List Ty)(it:It α):Ending->World->Prop:=fun e w' => ∃v fp S',e= .returned v/\jh E.B E.w0 E.S0 w' S' /\lF w' S' /\(itr E.P args it v fp).holds E.w0.heap.size E.B w' S'
def C1.of(hf:P.funcs[f]? =some fn)(M:fn.body=some c)(hN:fn.ntmps=N)(hn:Nat.ble ts.length N=true)(h: ∀w0 S0,CG ⟨P,⟨N,[]⟩,s0,w0,S0,none⟩ (bodyPost P fn (aao ⟨P,⟨N,[]⟩,s0,w0,S0,none⟩ args it)) c [] (vh 0 ts)):C1 P f ts args it:=by
 subst hN
 intro w S vs hs hv
 exact lE.1 (GP (F:=fw none) (n:=0) hf M trivial (h w S _ w S ⟨jh.refl _ _ _,hs,trivial,oR hv _ (rL hn)⟩))
section
def PA{k:Nat}{v:Value}{fp:Nat->Prop}(hr:fn.results= #[.tmp k])(hk:cL G k=some (tV v)):
  AT ⟨P,⟨N,[]⟩,B,w0,S0,none⟩ (bodyPost P fn (aao ⟨P,⟨N,[]⟩,B,w0,S0,none⟩ args it)) .ret (itr P args it v fp::aK) G:=fun a w S st=>by
 have hv:a.tmps.getD k undef=v:=st.facts.at_ k _ hk
 exact⟨st.facts.defers,_,o9 P fn k hr _ _,v,fp,S,by rw [hv],st.ext,st.sat,st.own.1⟩
section
variable{ty:TypeId}
def KR{xs:List Operand}(hc:aj E.P f=true)(hs:C1 E.P f ts args it)(V:kp E.N G xs ts)(hd:Nat.blt d E.N.n=true)(k: ∀v fp,RG E ops aJ rest (itr E.P args it v fp::aK) ((d,tV v)::G)):
  RG E ops aJ (⟨some d,.call ⟨.value (.func f),xs.toArray,ats⟩,ty,pos,after,none⟩::rest) aK G:= .of rfl fun a w S st=>by
 have hr:(execOp a.eval ⟨some d,.call ⟨.value (.func f),xs.toArray,ats⟩,ty,pos,after,none⟩).run E.P w= .ok (.enter f (xs.map a.eval).toArray) w:=by
  simp [execOp,resolve,Act.eval,Deferred.ofValue,invoke,fZ hc]
 refine⟨fun c h=>(by cases h),?_⟩
 rw [hr]
 refine(hs w S _ st.sat (V.tys st.facts)).mono fun e w' ⟨v,fp,S',he,I,K,h3⟩=>⟨_,he,?_⟩;exact k v fp _ _ S' ⟨st.ext.step0 I,K,sZ st.own I h3.1 (fun b M=>(h3.2 b M).resolve_right id) st.base_le,(st.facts.mono I.keep).put hd rfl⟩
def F9{fid:FuncId}{O2:List OE}{caps:List Operand}(hO:aK=O1++O2)(hc:aj E.P fid=true)(hs:C8 E.P fid args it O1 cts)(hcap:kp E.N G caps cts)(hd:Nat.blt d E.N.n=true)(k: ∀v fp,RG E ops aJ rest (itr E.P args it v fp::O2) ((d,tV v)::G)):
  RG E ops aJ (⟨some d,.makeFunc (.func fid) #[] caps.toArray,ty,pos,after,none⟩::rest) aK G:= .of rfl fun a w S st=>by
 subst hO
 have hr:(execOp a.eval ⟨some d,.makeFunc (.func fid) #[] caps.toArray,ty,pos,after,none⟩).run E.P w= .ok (.value (.func (.func fid) #[] (caps.map a.eval).toArray)) w:=by simp [execOp,Instr.makeFunc]
 refine⟨fun c h=>(by cases h),?_⟩
 rw [hr]
 obtain⟨I,K,h3⟩:=pO st.own
 have hcv:=hcap.tys st.facts
 refine k (.func (.func fid) #[] (caps.map a.eval).toArray) (fun k=> ∃f∈O1,f.fp k) _ _ S ⟨st.ext,st.sat,?_,st.facts.put hd rfl⟩;refine dN.cons ⟨⟨fun b ⟨f,hf,M⟩=>f.here (dN.mem I f hf).1 b M,fid,_,rfl,hc,fun C w' S' he hC hs' =>?_⟩,fun b ⟨f,hf,M⟩=>(dN.mem I f hf).2 b M⟩ (fun f hf b ⟨g,H,M⟩=>h3 g H f hf b M) K;exact hs w' S' _ hs' (I.weak.ext he fun f hf b M=>hC b ⟨f,hf,M⟩) (hcv.mono he.keep)
end
end

def Kg:List Nat->List Ty->nt->nt
 |d::ds,t::ts,G=>Kg ds ts ((d,t)::G)
 |_,_,G=>G
variable{t:TypeId}
def CX{N:Fr}{S:SH}: ∀(ds:List Nat) (ts:List Ty) (vs:List Value) (a:Act) (G:nt),ds.length=ts.length->Aa S ts vs->(ds.all fun d=>Nat.blt d N.n)=true->eJ N S a G->
  eJ N S {tmps:=(ds.zip vs).foldl (fun t (p:Nat×Value)=>t.setIfInBounds p.1 p.2) a.tmps,defers:=a.defers} (Kg ds ts G)
 |[],_,_,_,_,hl,_,_,hF=>by
  cases vZ hl.symm
  simpa [Kg] using hF
 |d::ds,[],_,_,_,hl,_,_,_=>by simp at hl
 |d::ds,t::ts,[],_,_,_,hv,_,_=>hv.elim
 |d::ds,t::ts,v::vs,a,G,hl,⟨I,K⟩,hd,hF=>by
  simp only [BE,gN]at hd
  have:=CX ds ts vs (a.put (some d) v) ((d,t)::G) (by simpa using hl) K hd.2 (hF.put hd.1 I)
  simpa [Kg,Act.put] using this
def abq(E:En)(l:Nat)(rec:Loop){σ ι:Type}(Oi:ι->List OE)(dat:ι->σ)(s2:σ):Ending->World->Prop:=fun en w' =>
 ∃i S',en= .returned (.bool true)/\dat i=s2/\jh E.B E.w0 E.S0 w' S' /\lF w' S' /\dN E.base E.B w' S' (zc l rec .ready::Oi i)
def ZJ(E:En)(l:Nat)(body:Code)(R:Ending->World->Prop):Exit->Act->World->Prop:=
 Exit.then (fun a₁ w₁=> ∃w₂,(Instr.beginRound l).run E.P w₁= .ok () w₂/\body.wpIn (fw E.r) 0 E.P (roundPost E.P l R) a₁ w₂) (fun _ _ _=>False)
variable{hi:Int}{i:Nat}{j:Int}{o:Oper}{rec:Loop}{x1 x2 x3:OE}
section
def LJ{l:Nat}{st st' :LoopState}{aK:List OE}(h:dN base B w S (zc l rec st::aK))(hs:lF w S):
  jh (fun k=>k=l) w S (w.putObj l (.loop {rec with state:=st',pending:=none})) S/\lF (w.putObj l (.loop {rec with state:=st',pending:=none})) S/\dN base B (w.putObj l (.loop {rec with state:=st',pending:=none})) S (zc l rec st' ::aK):=by
 obtain⟨hno,hl⟩:=h.1.1
 have hlt:=(yL.1 hl).1
 have hext:jh (fun k=>k=l) w S (w.putObj l (.loop {rec with state:=st',pending:=none})) S:=⟨rfl,rfl,rfl,fa _,by simp,fun k _ hk=>World.putObj_heap_other hk,SH.le_refl _,fun _ _ _=>rfl⟩
 refine⟨hext,hs.same fun k o hk=>?_,⟨⟨hno,World.putObj_heap_same hlt⟩,h.1.2⟩,h.2.1,h.2.2.ext hext fun g H k hk hkl=>h.2.1 g H k hkl hk⟩
 have hne:k≠l:=fun e=>by subst e;rw [hno]at hk;cases hk
 exact World.putObj_heap_other hne
def WW{l:Nat}{body:Code}{R:Ending->World->Prop}(h:CG E (roundPost E.P l R) body (zc l rec .busy::aK) G):AT E (ZJ E l body R) .normal (zc l rec .ready::aK) G:=fun a w S st=>by
 obtain⟨I,K,h3⟩:=LJ (st' := .busy) st.own st.sat
 obtain⟨_,hl⟩:=st.own.1.1
 exact⟨_,run_beginRound hl rfl,h a _ S ⟨st.ext.step I (fun c hc=>st.own.1.2 c hc),K,h3,st.facts⟩⟩
def PD{l:Nat}{Oi:ι->List OE}{dat:ι->σ}{s2:σ}(i:ι)(hi:dat i=s2)(hO:aK=Oi i):AT E (roundPost E.P l (abq E l rec Oi dat s2)) .normal (zc l rec .busy::aK) G:=fun a w S st=>by
 subst hO
 obtain⟨I,K,h3⟩:=LJ (st' := .ready) st.own st.sat
 obtain⟨_,hl⟩:=st.own.1.1
 exact⟨_,_,run_endRound none hl,i,S,rfl,hi,st.ext.step I (fun c hc=>st.own.1.2 c hc),K,h3⟩
def zK{ps:Array Nat}{vs:List Value}{tmps:Array Value}:(ps.zip vs.toArray).foldl (fun t (p,v)=>t.setIfInBounds p v) tmps=(ps.toList.zip vs).foldl (fun t (p:Nat×Value)=>t.setIfInBounds p.1 p.2) tmps:=by
 rw [<-Array.foldl_toList]
 simp
def F6{α σ:Type}(f:α->σ->Option σ):α->σ->Option (Bool×σ):=fun x s=>(f x s).map fun s' =>(true,s')
def Uq{v:Value}{fp:Nat->Prop}(Oi:ι->List OE)(dat:ι->σ){f:α->σ->Option σ}{s' :σ}{g:Operand}{ps:List Nat}{assign body:Code}(hr:E.r=none)(H:bk E.N G g (tV v))(i0:ι)(hO:aK=itr E.P args it v fp::Oi i0)(hit:it σ (F6 f) (dat i0)=some s')(hps: ∀x,ps.length=(args x).length)(hpn:(ps.all fun d=>Nat.blt d E.N.n)=true)(hbody: ∀(i:ι) (x:α) (s2:σ),f x (dat i)=some s2-> ∀(l:Nat) (rec:Loop) (w1:World) (S1:SH) (B1:Nat->Prop),
   CG ⟨E.P,⟨E.N.n,[]⟩,B1,w1,S1,some l⟩ (ZJ ⟨E.P,⟨E.N.n,[]⟩,B1,w1,S1,some l⟩ l body (abq ⟨E.P,⟨E.N.n,[]⟩,B1,w1,S1,some l⟩ l rec Oi dat s2)) assign (zc l rec .ready::Oi i) (Kg ps (args x) G))(k: ∀i',dat i' =s' -> ∀b,AT ⟨E.P,⟨E.N.n,AL b::E.N.ds⟩,E.B,E.w0,E.S0,E.r⟩ aJ .normal (E9 b::Oi i') G):CG E aJ (.rangeFunc g ps.toArray assign body) aK G:=fun a w S st=>by
 subst hO
 refine wpIn_rangeFunc fun fn _=>?_
 have hr0:(fw E.r).round=none:=hr
 have hfw:fw E.r=fw none:=by rw [hr]
 rw [hr0]
 obtain⟨rec,hrec⟩: ∃rec:Loop,rec={state:= .ready,pending:=none,fn,tmps:=a.tmps,params:=ps.toArray,assign,body,defers:=w.heap.size}:=⟨_,rfl⟩
 obtain⟨x1,x2,x3⟩:=iD (w:=w) (.deferred (some [])) st.sat
 obtain⟨y1,y2,y3⟩:=iD (w:=w.alloc (.deferred (some []))) (.loop rec) x2
 obtain⟨W1,hW1⟩: ∃W1,(w.alloc (.deferred (some []))).alloc (.loop rec)=W1:=⟨_,rfl⟩
 rw [hW1]at y1 y2
 have hsz:(w.alloc (.deferred (some []))).heap.size=w.heap.size+1:=by simp
 rw [hsz]at y3
 have hext:jh s0 w S W1 S:=x1.trans y1
 have hL1:W1.heap[w.heap.size+1]? =some (.loop rec):=by
  rw [<-hW1];have:=World.alloc_heap_new (w.alloc (.deferred (some []))) (.loop rec);rwa [hsz]at this
 have hK1:W1.heap[w.heap.size]? =some (.deferred (some [])):=by
  rw [y1.heap w.heap.size (by omega) (fun h=>h)];exact World.alloc_heap_new w _
 have hW1s:W1.heap.size=w.heap.size+2:=by rw [<-hW1];simp
 have hg' :a.eval g=v:=H S a st.facts
 obtain⟨hit1,hap,hoi⟩:=st.own
 obtain⟨⟨hfp,gf,cap,hv,hcal,hcall⟩,hbase⟩:=hit1
 have hbl:=st.base_le
 have hoi1:dN E.base E.B W1 S (Oi i0):=hoi.ext0 hext
 have hlt: ∀f∈Oi i0,∀k,f.fp k->k<w.heap.size:=fun f hf k hk=>f.here (dN.mem hoi f hf).1 k hk
 refine⟨w.heap.size+1,[AL w.heap.size],W1,{target:= .fn (.func gf) cap,args:= #[.func (.yield (w.heap.size+1)) #[] #[]]},W1,gf,
  #[.func (.yield (w.heap.size+1)) #[] #[]]++cap,W1,?_,?_,fun _ _=>trivial,?_,fun h=>(by cases h),?_⟩
 ·rw [<-hW1,hrec];exact run_enterLoop_outer _ _ _ _ _
 ·simp only [resolve,hg',hv]
  simp [go_sem]
 ·simp [invoke,go_sem,fZ hcal]
 rw [hfw]
 refine lE.2 ?_
 have hyld:Yld E.P args (F6 f) (fun s e=> ∃i,dat i=s/\e=tu S (zc (w.heap.size+1) rec .ready::Oi i)) (.func (.yield (w.heap.size+1)) #[] #[]):=by
  refine⟨_,rfl,?_⟩
  rintro x s r hy e ⟨i,rfl,rfl⟩ w2 S2 vs hs2 ⟨hle,hown⟩ hvs
  obtain⟨s2,hs2',rfl⟩: ∃s2,f x (dat i)=some s2/\r=(true,s2):=by
   unfold F6 at hy
   cases hf:f x (dat i)with
   |none=>rw [hf]at hy;cases hy
   |some s2=>rw [hf]at hy;exact⟨s2,rfl,by simpa using hy.symm⟩
  have hl2:=hown.1.1.2
  have hvl:=hvs.length
  have hyr:=run_yield (P:=E.P) (args:=vs.toArray) hl2 (by rw [hrec];simp [hps x,hvl])
  refine⟨_,_,_,_,hyr,roundIn_of_wpIn trivial ?_⟩
  have:=hbody i x s2 hs2' (w.heap.size+1) rec w2 S2 (fun k=> ∃f∈zc (w.heap.size+1) rec .ready::Oi i,f.fp k)
   {tmps:=(ps.zip vs).foldl (fun t (p:Nat×Value)=>t.setIfInBounds p.1 p.2) a.tmps,defers:=[]} w2 S2
   ⟨jh.refl _ _ _,hs2,mw hown fun f hf k hk=> .inr ⟨f,hf,hk⟩,CX ps (args x) vs ⟨a.tmps,[]⟩ G (hps x) hvs hpn ⟨st.facts.size,rfl,fun j t h=>t.mono hle (st.facts.at_ j t h)⟩⟩
  rw [hrec]
  rw [hrec]at this
  rw [zK]
  refine wpIn_mono this ?_
  intro e a3 w3 hp
  cases e with
  |normal=>
   obtain⟨w4,hb4,hp4⟩:=hp
   refine⟨w4,hb4,wpIn_mono hp4 ?_⟩
   have hR: ∀en w',abq ⟨E.P,⟨E.N.n,[]⟩,fun k=> ∃f∈zc (w.heap.size+1) rec .ready::Oi i,f.fp k,w2,S2,some (w.heap.size+1)⟩ (w.heap.size+1) rec Oi dat s2 en w' ->
     ∃e' S',en= .returned (.bool true)/\(∃i',dat i' =s2/\e' =tu S (zc (w.heap.size+1) rec .ready::Oi i'))/\jh (tu S (zc (w.heap.size+1) rec .ready::Oi i)).fp w2 S2 w' S' /\lF w' S' /\e'.p w' S' /\ ∀k,e'.fp k->(tu S (zc (w.heap.size+1) rec .ready::Oi i)).fp k\/w2.heap.size<=k:=by
    rintro en w' ⟨i',S',I,K,h3,h4,h5⟩
    exact⟨_,S',I,⟨i',K,rfl⟩,h3,h4,⟨SH.le_trans hle h3.keep,h5.weak⟩,fun k ⟨f,hf,hk⟩=>((dN.mem h5 f hf).2 k hk).symm⟩
   rw [hrec]at hR
   intro e5 a5 w5 hp5
   cases e5<;>simp only [roundPost]at hp5 ⊢
   case normal=>obtain⟨v5,w6,I,K⟩:=hp5;exact⟨v5,w6,I,hR _ _ K⟩
   case ret=>obtain⟨v5,w6,I,K⟩:=hp5;exact⟨v5,w6,I,hR _ _ K⟩
   case exit=>obtain⟨v5,w6,I,K⟩:=hp5;exact⟨v5,w6,I,hR _ _ K⟩
   case goto=>obtain⟨v5,w6,I,K⟩:=hp5;exact⟨v5,w6,I,hR _ _ K⟩
  |_=>exact hp
 have hrecE:W1.heap[w.heap.size+1]? =some (.loop {rec with state:= .ready,pending:=none}):=by rw [hL1,hrec]
 have he0:(tu S (zc (w.heap.size+1) rec .ready::Oi i0)).p W1 S:=⟨SH.le_refl _,⟨⟨y3,hrecE⟩,fun _ _=> .inl (lG _)⟩,fun f hf k hk hfk=>by have:=hlt f hf k hfk;have hk' :k=w.heap.size+1:=hk;omega,hoi1.weak⟩
 have hap0: ∀k,(tu S (zc (w.heap.size+1) rec .ready::Oi i0)).fp k-> ¬fp k:=by
  rintro k ⟨f,hf,hk⟩ hfk
  rcases gW.1 hf with rfl|hf
  ·have:=hfp k hfk;have hk' :k=w.heap.size+1:=hk;omega
  ·exact hap f hf k hfk hk
 refine(hcall s0 W1 S hext (fun _ _ h=>h) y2 σ (F6 f) (dat i0) s' hit _ _ hyld _ ⟨i0,rfl,rfl⟩ he0 hap0).mono ?_
 rintro en w2 ⟨e',S2,⟨vr,rfl⟩,⟨i',hi',rfl⟩,hx2,hs2,⟨hle2,hown2⟩,hnew⟩
 have hl2:=hown2.1.1.2
 refine⟨none,_,run_endLoop hl2 (by simp),?_⟩
 have hb2:dN E.base E.B w2 S2 (zc (w.heap.size+1) rec .ready::Oi i'):=by
  refine mw hown2 fun f hf k hk=>?_
  rcases hnew k ⟨f,hf,hk⟩with⟨f0,hf0,hk0⟩|h
  ·rcases gW.1 hf0 with rfl|hf0
   ·left;have hk' :k=w.heap.size+1:=hk0;omega
   ·exact(dN.mem hoi f0 hf0).2 k hk0
  ·left;omega
 obtain⟨z1,z2,z3⟩:=LJ (st' := .exhausted) hb2 hs2
 have hdf:(E9 w.heap.size).p W1 S:=⟨x3,hK1⟩
 have hnb: ∀k,(E9 w.heap.size).fp k-> ¬((tu S (zc (w.heap.size+1) rec .ready::Oi i0)).fp k\/fp k):=by
  rintro k hk h
  have hk' :k=w.heap.size:=hk
  subst hk'
  rcases h with⟨f,hf,hfk⟩|h
  ·rcases gW.1 hf with rfl|hf
   ·have hk' :w.heap.size=w.heap.size+1:=hfk;omega
   ·have:=hlt f hf _ hfk;omega
  ·have:=hfp _ h;omega
 have vi:(E9 w.heap.size).p w2 S2:=(E9 w.heap.size).kept hdf hx2 hnb
 have hd3:=(E9 w.heap.size).kept vi z1 (fun k hk hkl=>by have I:k=w.heap.size:=hk;have K:k=w.heap.size+1:=hkl;omega)
 have hBin: ∀k,((tu S (zc (w.heap.size+1) rec .ready::Oi i0)).fp k\/fp k)->E.w0.heap.size<=k\/E.B k:=by
  rintro k (⟨f,hf,hk⟩|h)
  ·rcases gW.1 hf with rfl|hf
   ·left;have hk' :k=w.heap.size+1:=hk;have:E.w0.heap.size<=w.heap.size:=hbl;omega
   ·exact(dN.mem hoi f hf).2 k hk
  ·exact hbase k h
 refine k i' hi' w.heap.size _ _ S2 ⟨((st.ext.step0 hext).step hx2 hBin).step z1 (fun c hc=>z3.1.2 c hc),z2,?_,?_⟩
 ·refine dN.cons ⟨hd3,fun k hk=> .inl (by have I:k=w.heap.size:=hk;rw [I];exact hbl)⟩ (fun f hf k hk hfk=>?_) z3.2.2
  have I:k=w.heap.size:=hk
  rcases hnew k ⟨f,lT _ hf,hfk⟩with K|K
  ·exact hnb k hk (.inl K)
  ·omega
 ·refine⟨st.facts.size,?_,fun j t hj=>t.mono (SH.le_trans (SH.le_refl S) hle2) (st.facts.at_ j t hj)⟩
  show AL w.heap.size::a.defers=_
  rw [st.facts.defers]
end

section
variable{R:Ending->World->Prop}{ds:List Deferred}
def uY(h:AT ⟨P,⟨N,[]⟩,B,w0,S0,none⟩ (bodyPost P fn R) .ret aK G):AT ⟨P,⟨N,[]⟩,B,w0,S0,none⟩ (bodyPostM (fw none) 0 P fn R) .ret aK G:=fun a w S st=>by
 obtain⟨I,v,K,h3⟩:=h a w S st
 show LeavesInM (fw none) 0 P fn a.tmps R a.defers .returning w
 rw [I]
 exact⟨v,K,h3⟩
def EB(h:AT ⟨P,⟨N,ds⟩,B,w0,S0,none⟩ (bodyPostM (fw none) 0 P fn R) .ret aK G):AT ⟨P,⟨N,AL b::ds⟩,B,w0,S0,none⟩ (bodyPostM (fw none) 0 P fn R) .ret (E9 b::aK) G:=fun a w S st=>by
 show LeavesInM (fw none) 0 P fn a.tmps R a.defers .returning w
 rw [st.facts.defers]
 obtain⟨hno,M⟩:=st.own.1.1
 have hlt:=(yL.1 M).1
 have hext:jh (fun k=>k=b) w S (w.putObj b (.deferred none)) S:=⟨rfl,rfl,rfl,fa _,by simp,fun k _ hk=>World.putObj_heap_other hk,SH.le_refl _,fun _ _ _=>rfl⟩
 have hsat:lF (w.putObj b (.deferred none)) S:=st.sat.same fun k o hk=>by
  have hne:k≠b:=fun e=>by subst e;rw [hno]at hk;cases hk
  exact World.putObj_heap_other hne
 have:=h {a with defers:=ds} (w.putObj b (.deferred none)) S ⟨st.ext.step hext (fun c hc=>st.own.1.2 c hc),hsat,st.own.2.2.ext hext (fun g H k hk hkb=>st.own.2.1 g H k hkb hk),⟨st.facts.size,rfl,st.facts.at_⟩⟩
 exact⟨by simp,.inl ⟨b,_,rfl,run_takeDeferred M,this⟩⟩
end
def Ph{t:Ty}(hf:P.funcs[f]? =some fn)(M:fn.body=some c)(hN:fn.ntmps=N)(hn:Nat.ble ts.length N=true)(h: ∀w0 S0,CG ⟨P,⟨N,[]⟩,s0,w0,S0,none⟩ (bodyPostM (fw none) 0 P fn (MI ⟨P,⟨N,[]⟩,s0,w0,S0,none⟩ t)) c [] (vh 0 ts)):bY P f ts t:=by
 subst hN
 intro w S vs hs hv
 exact lE.1 (callsIn_of_wp_marks (F:=fw none) (n:=0) hf M trivial (h w S _ w S ⟨jh.refl _ _ _,hs,trivial,oR hv _ (rL hn)⟩))

def rT(t:Ty):Rp Unit where
 sz:=1
 agg:=false
 rc:=fun S cs _=> ∃v,cs=[v]/\v.oneCell' =true/\t.p S v
 mono:=fun h ⟨v,e,k,l⟩=>⟨v,e,k,t.mono h l⟩
 len:=fun⟨_,e,_⟩=>by rw [e];rfl
 one:=fun⟨v,e,k,_⟩ c hc=>by rw [e]at hc;simp at hc;subst hc;exact k
 sc:=fun _=>rfl
variable{cs:List Value}{u:Value}
def tRT{t:Ty}{u:Unit}{v:Value}:(tD (rT t) u).p S v↔v.oneCell' =true/\t.p S v:=by
 constructor
 ·rintro⟨cs,rfl,w,rfl,I,K⟩;exact⟨I,K⟩
 ·rintro⟨I,K⟩;exact⟨[v],rfl,v,rfl,I,K⟩
variable{ak U:TypeId}{agg:Bool}{bytes:Nat}{dst:Option Tmp}{get:α->β}{k' :IntKind}{lo:Int}{m off sz:Nat}{ys:List α}{z:List Value}
section
variable{ty:TypeId}
def cz.imp{t u:Ty}(h:cz E aK G o t)(k: ∀S v,t.p S v->u.p S v):cz E aK G o u:=fun a w S hs ho hf=>
 qI (fun _ _ ⟨v,S',I,K,h3,h4⟩=>⟨v,S',I,K,h3,k S' v h4⟩) (h a w S hs ho hf)
def Gy{res:β->Ty}{f:α->Option β}(V:bk E.N G x (fL E.P args res f)):cz E aK G ⟨dst,.box ak x,ty,pos,after,g⟩ (bF (rT (fL E.P args res f)) ()):=
 Qx (fun S a hf=>tRT.2 ⟨by obtain⟨_,_,e,_⟩:=V S a hf;rw [e];rfl,V S a hf⟩)
def wr{t:Ty}{p:Operand}(ti:TI E.P U 1 bytes false z)(hp:bk E.N G p (bF (rT t) ())):cz E aK G ⟨dst,.load U p,ty,pos,after,g⟩ t:=
 (cJ (r:=rT t) (x:=()) ti rfl rfl hp).imp fun _ _ h=>(tRT.1 h).2

def HJ:rV.rc S [.slice none 0 0] (bw none 0 0):=⟨rfl,rfl⟩
def Uz{N:Fr}(h:bk N G x (tV (bw l cap n))):bk N G x (tD rV (bw l cap n)):=fun S a hf=>yR.2 ⟨h S a hf,by cases l<;>rfl⟩
def jA{p:Operand}(ti:TI E.P U 1 bytes false z)(hm:bx rV ak b (bw l cap n)∈aK)(hp:bk E.N G p (tV (ba b 0))):
  cz E aK G ⟨dst,.load U p,ty,pos,after,g⟩ (tV (bw l cap n)):=(bR (q:=rV) (get:=fun x=>x) ti rfl rfl bz hm hp).imp fun _ _ h=>(yR.1 h).1

def eS{α:Type}(xs:List α)(lo hi:Int):Option (List α):=if 0<=lo/\lo<=hi/\hi<=(xs.length:Int)then some ((xs.take hi.toNat).drop lo.toNat)else none
def jv(h:eS xs lo hi=some ys): ∃l m:Nat,lo=l/\hi=m/\l<=m/\m<=xs.length/\ys=(xs.take m).drop l:=by
 unfold eS at h
 split at h
 ·rename_i hc
  exact⟨lo.toNat,hi.toNat,by omega,by omega,by omega,by omega,by simpa using h.symm⟩
 ·cases h
def Hg{a:Option Addr}{l:Nat}(h:NI r S a xs)(hl:l<=m)(hm:m<=xs.length)(hc:xs.length<=cap):
  NI r S (if cap=l then a else a.map (·.add (l*r.sz))) ((xs.take m).drop l):=by
 by_cases hlm:l=m
 ·left;subst hlm;simp
 right
 rcases h with h|⟨b,off,c,ak,fr,e1,e2,e3⟩
 ·subst h;simp at hm;omega
 subst e1
 have hne: ¬(cap=l):=by omega
 refine⟨b,off+l*r.sz,c,ak,fr,?_,e2,?_⟩
 ·rw [aS hne];simp [Addr.add]
 have hlen:((xs.take m).drop l).length=m-l:=by simp;omega
 have e4:xs=(xs.take m).take l++((xs.take m).drop l++xs.drop m):=by
  rw [<-ji,xQ,xQ]
 have I:((xs.take m).take l).length=l:=by simp;omega
 rw [e4]at e3
 have K:=(tR e3).2
 have h3:=(tR K).1
 rw [I]at h3
 rw [hlen]at h3 ⊢
 rw [<-e4]at h3
 rw [zD,BF,qb]at h3
 have hmin:min ((m-l)*r.sz) (xs.length*r.sz-l*r.sz)=(m-l)*r.sz:=by
  rw [<-Nat.sub_mul];exact Df (BJ _ (by omega))
 rwa [hmin]at h3
def nN{n:Int}{y:Nat}{code:BoundsCode}(h0:0<=n)(I:n<=y):(Instr.sliceBound (.int k n) y code).run P w= .ok n.toNat w:=by
 simp [Instr.sliceBound,asIntOf,h0,I]
def Qt{hi:Operand}(Y:E.P.underlying t=some (.slice ak))(ti:TI E.P ak sz bytes agg z)(hsz:r.sz=sz)(V:bk E.N G x (tD (f9 r) xs))(hhi:bk E.N G hi (tD (rI k') j))(h:eS xs 0 j=some ys):cz E aK G ⟨dst,.slice t x none (some hi) none,ty,pos,after,g⟩ (tD (f9 r) ys):=
 .of_pure fun a w S _ _ hf=>by
  subst hsz
  obtain⟨ad,cap,I,K,h3,h4⟩:=rA.1 (V S a hf)
  have h6:=dL.1 (hhi S a hf)
  obtain⟨l,m,hl,rfl,h7,h8,rfl⟩:=jv h
  have hl0:l=0:=by omega
  subst hl0
  have hlen:((xs.take m).drop 0).length=m-0:=by simp;omega
  refine⟨.slice (if cap=0 then ad else ad.map (·.add (0*r.sz))) (m-0) (cap-0),?_,rA.2 ⟨_,cap-0,by rw [hlen],by omega,by omega,Hg h4 h7 h8 K⟩⟩
  simp [execOp,Instr.sliceAt,I,h6,Instr.slice,nc Y,Instr.sliceBounds,nN (k:=k') (n:=(m:Int)) (y:=cap) (by omega) (by omega),ti.sizeOf]
def Qs{lo:Operand}{i:Int}(Y:E.P.underlying t=some (.slice ak))(ti:TI E.P ak sz bytes agg z)(hsz:r.sz=sz)(V:bk E.N G x (tD (f9 r) xs))(hlo:bk E.N G lo (tD (rI k) i))(h:eS xs i (xs.length:Int)=some ys):cz E aK G ⟨dst,.slice t x (some lo) none none,ty,pos,after,g⟩ (tD (f9 r) ys):=
 .of_pure fun a w S _ _ hf=>by
  subst hsz
  obtain⟨ad,cap,I,K,h3,h4⟩:=rA.1 (V S a hf)
  have h5:=dL.1 (hlo S a hf)
  obtain⟨l,m,rfl,hm,h7,h8,rfl⟩:=jv h
  have hm' :m=xs.length:=by omega
  subst hm'
  have hlen:((xs.take xs.length).drop l).length=xs.length-l:=by simp
  refine⟨.slice (if cap=l then ad else ad.map (·.add (l*r.sz))) (xs.length-l) (cap-l),?_,rA.2 ⟨_,cap-l,by rw [hlen],by omega,by omega,Hg h4 h7 h8 K⟩⟩
  simp [execOp,Instr.sliceAt,I,h5,Instr.slice,nc Y,Instr.sliceBounds,nN (k:=k) (n:=(l:Int)) (y:=xs.length) (by omega) (by omega),ti.sizeOf]
end

def tz(P:Program){α:Type} [DecidableEq α](t:TypeId)(r:Rp α)(n:Nat):Prop:=
 ∀(S:SH) (cs ds:List Value) (x y:α) (d:Nat) (w:World),r.rc S cs x->r.rc S ds y->(Op.equalIn (d+n) t (r.val cs) (r.val ds)).run P w= .ok (decide (x=y)) w
def D8(h:P.underlying t=some (.int k')):tz P t (rI k) (n+1):=fun S cs ds x y d w V hy=>by
 have I:cs=[.int k x]:=V
 have K:ds=[.int k y]:=hy
 subst I K
 have:(Op.equalIn (d+n+1) t (.int k x) (.int k y)).run P w= .ok (x==y) w:=by simp [Op.equalIn,nc h]
 have e:(x==y)=decide (x=y):=by by_cases h:x=y<;>simp [h]
 rw [e]at this
 exact this
def Zw(h:P.underlying t=some .string):tz P t rS (n+1):=fun S cs ds x y d w V hy=>by
 have I:cs=[.string ⟨x.toArray⟩]:=V
 have K:ds=[.string ⟨y.toArray⟩]:=hy
 subst I K
 have:=run_equalIn_string (P:=P) w (d+n) t ⟨x.toArray⟩ ⟨y.toArray⟩ h
 simp only [Rp.val,rS,List.headD_cons,iq,fU]
 rw [show d+(n+1)=d+n+1 from rfl,this]
 simp only [ByteArray.toList_eq]
 by_cases e:x=y<;>simp [e]
abbrev Fd:=TypeId×Nat×Bool
def QE(f:Field):Fd:=(f.type,f.offset,f.name== "_")
def T6(d:Nat)(xs ys:Array Value):List Fd->Sem Bool
 |[]=>pure true
 |f::fs=>
  if f.2.2=false then do
   let a<-part f.1 xs f.2.1
   let b<-part f.1 ys f.2.1
   let r<-Op.equalIn d f.1 a b
   if(!r)=true then pure false else T6 d xs ys fs
  else T6 d xs ys fs
def O3(d:Nat)(xs ys:Array Value): ∀fs:List Field,Op.eqFields d xs ys fs=T6 d xs ys (fs.map QE)
 |[]=>rfl
 |f::fs=>by
  unfold Op.eqFields T6
  rw [O3 d xs ys fs]
  by_cases h:f.name= "_"
  ·have e:((QE f).2.2=false)=False:=by simp [QE,h]
   simp only [xU,e,fU]
   rw [aS (by simpa using h)]
  ·have e:((QE f).2.2=false)=True:=by simp [QE,h]
   simp only [xU,e,gx]
   rw [br (by simpa using h)]
   rfl
def WS(P:Program){α:Type}(r:Rp α)(n:Nat)(fs:List Fd)(c:α->α->Bool):Prop:=
 ∀(S:SH) (cs ds:List Value) (x y:α) (d:Nat) (w:World),r.rc S cs x->r.rc S ds y->(T6 (d+n) cs.toArray ds.toArray fs).run P w= .ok (c x y) w
def WS.nil:WS P r n [] (fun _ _=>true):=fun _ _ _ _ _ _ _ _ _=>rfl
def vw(ti:TI P t sz bytes agg z)(hsz:q.sz=sz)(hag:q.agg=agg)(hf:qZ r off q get){x:α}(V:r.rc S cs x)(w:World):
  (part t cs.toArray off).run P w= .ok (q.val ((cs.drop off).take q.sz)) w:=by
 have h:=hf S cs x V
 have hl:=q.len h
 subst hsz hag
 unfold part
 by_cases ha:q.agg=true
 ·have e1:=ti.isAgg w
  simp only [xK,e1,ha,zS,gx,ti.sizeOf,Sem.run_pure]
  unfold Rp.val
  rw [br ha]
  congr 2
  apply Array.ext'
  simp
 ·rw [Gb]at ha
  have e1:=ti.isAgg w
  have hs1:=q.sc ha
  simp only [xK,e1,ha,zS,iq,fU]
  rw [hs1]at hl ⊢
  obtain⟨v,hv⟩:=List.length_eq_one_iff.1 hl
  have hc:cs[off]? =some v:=by
   have:((cs.drop off).take 1)[0]? =some v:=by rw [hv];rfl
   rw [EG (by omega),zU]at this
   simpa using this
  unfold Rp.val
  rw [hv,ha]
  simp [hc]
def WS.cons [DecidableEq β]{t:Nat}{fs:List Fd}{c:α->α->Bool}(ti:TI P t sz bytes agg z)(hsz:q.sz=sz)(hag:q.agg=agg)(hf:qZ r off q get)(he:tz P t q n)(hr:WS P r n fs c):
  WS P r n ((t,off,false)::fs) (fun x y=>decide (get x=get y)&&c x y):=fun S cs ds x y d w V hy=>by
 have I:=vw ti hsz hag hf V w
 have K:=vw ti hsz hag hf hy w
 have h3:=he S _ _ _ _ d w (hf S cs x V) (hf S ds y hy)
 unfold T6
 simp only [gx,xK,I,K,h3,zS]
 by_cases e:get x=get y
 ·simp only [e,Dh,p6,iq,fU,xr]
  exact hr S cs ds x y d w V hy
 ·simp [e]
def QO [DecidableEq α]{t:Nat}{fs:List Fd}{c:α->α->Bool}(Y:(P.underlying t).map (fun d=>match d with| .struct l=>(true,l.toList.map QE)|_=>(false,[]))=some (true,fs))(hp:P.stoodInHeld t=false)(ha:r.agg=true)(hr:WS P r n fs c)(hc: ∀x y,c x y=decide (x=y)):tz P t r (n+1):=fun S cs ds x y d w V hy=>by
 obtain⟨l,I,K⟩: ∃l,P.underlying t=some (.struct l)/\l.toList.map QE=fs:=by
  cases hu:P.underlying t with
  |none=>rw [hu]at Y;cases Y
  |some d=>
   rw [hu]at Y
   cases d<;>simp at Y
   exact⟨_,rfl,Y⟩
 have hfo:P.fieldsOf t=l:=by unfold Program.fieldsOf;rw [I]
 have:=run_equalIn_struct (P:=P) w (d+n) t cs.toArray ds.toArray (by rw [hfo];exact I) hp
 rw [vq ha,vq ha,show d+(n+1)=d+n+1 from rfl,this,hfo,O3,K,hr S cs ds x y d w V hy,hc]
def wN [DecidableEq α](h:tz P t r n)(m:Nat):tz P t r (m+n):=fun S cs ds x y d w V hy=>by
 have:=h S cs ds x y (d+m) w V hy
 rwa [Nat.add_assoc]at this
def Xa.of [DecidableEq α](H:P.eqGuardType P.depth t=false)(h:tz P t r 20):Xa P t r:=⟨H,fun S cs ds x y d w V hy=>h S cs ds x y d w V hy⟩

def Iy{l:List α}{e:α}(h:xs.drop i=e::l):decide ((i:Int)<(xs.length:Int))=true:=by
 have:i<xs.length:=by
  rcases uy i xs.length with h' |h'
  ·exact h'
  ·rw [Ae h']at h;cases h
 simp;omega
def KG(h:xs.drop i=[]):decide ((i:Int)<(xs.length:Int))=false:=by
 have:=Jc.1 h
 simp;omega
def cH{l:List α}{e:α}(h:xs.drop i=e::l):xs.drop (i+1)=l:=by
 rw [<-qb,h];rfl
def cD{l:List α}{e:α}(h:xs.drop i=e::l):di xs (i:Int)=some e:=by
 rw [cO]
 have:=zU (xs:=xs) (i:=i) (j:=0)
 rw [h]at this
 simpa using this.symm
def KF{l:List α}{e:α}(h:xs.drop i=e::l)(hN:xs.length<=maxLen):i<9223372036854775807:=by
 have:=Ng (Iy h)
 simp only [maxLen]at hN
 omega
def TJ{k:Nat}(h:N-i=k+1):decide ((i:Int)<(N:Int))=true:=by simp;omega
def TK(h:N-i=0):decide ((i:Int)<(N:Int))=false:=by simp;omega
def L0{k:Nat}(h:N-i=k+1):N-(i+1)=k:=by omega
def Ma{k:Nat}(h:N-i=k+1)(hN:N<=9223372036854775807):i<9223372036854775807:=by omega
def XK(h:n<=maxLen):n<=9223372036854775807:=by simp only [maxLen]at h;omega
variable{ix:Operand}{mm:Bool}{set:α->β->α}{zs:List α}
section
variable{e:Exit}
section
variable{ty:TypeId}
def ut{one:Operand}{xt yt:TypeId}(hi:i<9223372036854775807)(V:bk E.N G x (tD (rI .i64) (i:Int)))(I:bk E.N G one (tD (rI .i64) 1)):
  cz E aK G ⟨dst,.binOp .add xt x one yt,ty,pos,after,g⟩ (tD (rI .i64) ((i+1:Nat):Int)):=by
 have e:IntKind.i64.wrap ((i:Int)+1)=((i+1:Nat):Int):=by
  rw [xN];omega
 have:=eG (E:=E) (aK:=aK) (dst:=dst) (ty:=ty) (pos:=pos) (after:=after) (g:=g) (xt:=xt) (yt:=yt) V I
 rwa [e]at this
end
def o7(hm:oq mm r ak l cap xs∈aK)(h:xs.length<=maxLen->CG E aJ c aK G):CG E aJ c aK G:=fun a w S st=>by
 refine h ?_ a w S st
 obtain⟨cells,I,_⟩:=(st.own.mem _ hm).1
 cases l with
 |none=>have:=I.1;omega
 |some b=>obtain⟨cur,_,g2,g3,_⟩:=I;exact BZ g2 g3
def St.dataAt{k:Nat}(h:St E aK G a w S)(hk:cL G k=some (tO r l cap xs)):St E aK ((k,tD (f9 r) xs)::G) a w S:=h.cons (h.facts.at_ k _ hk).2
def dQ(k:Nat)(hk:cL G k=some (tO r l cap xs))(h:AT E aJ e aK ((k,tD (f9 r) xs)::G)):AT E aJ e aK G:=fun a w S st=>h a w S (st.dataAt hk)
def sa(l:Option Nat)(off:Nat):Value:=
 match l with
 |none=> .pointer none
 |some b=>ba b off
def yg(h:Fi mm r ak l cap xs w S){e:α}(hi:xs[i]? =some e):
  ∃b cur,l=some b/\w.heap[b]? =some (.cells cur ak (0,0))/\xs.length<=cap/\cur.size=cap*r.sz/\r.rc S ((cur.toList.drop (i*r.sz)).take r.sz) e:=by
 obtain⟨cells,I,K,_⟩:=h
 have hlt:=(pP.1 hi).1
 cases l with
 |none=>have:=I.1;omega
 |some b=>
  obtain⟨cur,g1,g2,g3,g4,g5⟩:=I
  refine⟨b,cur,rfl,g1,g2,g4,?_⟩
  have h3:=DG K hi
  rw [<-g5,zD,BF]at h3
  have h4:i*r.sz+r.sz<=xs.length*r.sz:=by
   rw [<-Fu];exact BJ _ hlt
  rwa [Df (by omega)]at h3
def m9{i:Int}{e:α}(h:di xs i=some e):0<=i/\xs[i.toNat]? =some e:=by
 unfold di at h
 split at h
 ·exact⟨by assumption,h⟩
 ·cases h
section
variable{ty:TypeId}
def cn{e:TypeId}{i:Int}(Y:E.P.underlying t=some (.slice e))(ti:TI E.P e sz bytes agg z)(hm:oq mm r U l cap xs∈aK)(V:bk E.N G x (tV (bw l cap n)))(hi:bk E.N G ix (tD (rI k) i))(hy:di xs i=some y)(hn:n=xs.length:=by rfl):
  cz E aK G ⟨dst,.indexAddr t x ix,ty,pos,after,g⟩ (tV (sa l (i.toNat*sz+0))):=
 .of_pure fun a w S _ ho hf=>by
  subst hn
  have I:a.eval x=bw l cap xs.length:=V S a hf
  have h3:a.eval ix= .int k i:=dL.1 (hi S a hf)
  obtain⟨h0,hy'⟩:=m9 hy
  obtain⟨b,cur,rfl,_⟩:=yg (ho.mem _ hm).1 hy'
  have hlt:i.toNat<xs.length:=(pP.1 hy').1
  refine⟨_,?_,rfl⟩
  have hc:0<=i/\i<(xs.length:Int):=⟨h0,by omega⟩
  simp [execOp,I,h3,bw,Instr.indexAt,asIntOf,nc Y,hc,ti.sizeOf,lg,sa,ba]
def eE{foff:Nat}{i:Int}{p:Operand}(ti:TI E.P ak sz bytes agg z)(hsz:q.sz=sz)(hag:q.agg=agg)(hget:qZ r foff q get)(hoff:Nat.ble (foff+q.sz) r.sz=true)(hm:oq mm r U l cap xs∈aK)(hy:di xs i=some y)(hp:bk E.N G p (tV (sa l (i.toNat*r.sz+foff)))):cz E aK G ⟨dst,.load ak p,ty,pos,after,g⟩ (tD q (get y)):=
 .of_pure fun a w S _ ho hf=>by
  have I:a.eval p=sa l (i.toNat*r.sz+foff):=hp S a hf
  obtain⟨h0,hy'⟩:=m9 hy
  obtain⟨b,cur,rfl,M,_,_,h6⟩:=yg (ho.mem _ hm).1 hy'
  have hoff' :=rL hoff
  have h7:=hget S _ _ h6
  rw [zD,BF,qb,Df (by omega)]at h7
  refine⟨_,?_,_,rfl,h7⟩
  simp [execOp,I,sa,ba,Instr.loadAt,Instr.sureAddr,mB ti M hsz hag h7]
def Jv{o:Nat}{p:Operand}(hf:dl E.P ak i=some (off,sz))(h0:Nat.beq sz 0=false)(hm:oq mm r U l cap xs∈aK)(hy:di xs j=some y)(hp:bk E.N G p (tV (sa l o))):
  cz E aK G ⟨dst,.fieldAddr ak p i,ty,pos,after,g⟩ (tV (sa l (o+off))):=
 .of_pure fun a w S _ ho hF=>by
  have I:a.eval p=sa l o:=hp S a hF
  obtain⟨_,hy'⟩:=m9 hy
  obtain⟨b,cur,rfl,_⟩:=yg (ho.mem _ hm).1 hy'
  obtain⟨fs,f,e1,e2,e3,e4⟩:=EP hf
  have h0' :sz≠0:=fun e=>by subst e;simp at h0
  refine⟨_,?_,rfl⟩
  simp [execOp,I,sa,ba,Instr.fieldAt,nc e1,e2,Instr.sureAddr,fieldPlace,e4,h0',e3,lg]
end
def DF{α:Type}{r:Rp α}{S:SH}{y:α}{c:List Value}(hc:r.rc S c y): ∀{xs:List α} {i:Nat} {cs:List Value},xE r S cs xs->i<xs.length->xE r S (cs.take (i*r.sz)++c++cs.drop (i*r.sz+r.sz)) (xs.set i y)
 |[],_,_,_,h=>by simp at h
 |x::xs,0,cs,⟨a,b,e,I,K⟩,_=>by
  have hl:=r.len I
  refine⟨c,b,?_,hc,K⟩
  rw [e,<-hl];simp
 |x::xs,i+1,cs,⟨a,b,e,I,K⟩,h=>by
  have hl:=r.len I
  have ih:=DF hc K (i:=i) (by simpa using h)
  refine⟨a,_,?_,I,ih⟩
  have e1:(i+1)*r.sz=a.length+i*r.sz:=by rw [hl,wO];omega
  rw [e,e1,List.take_length_add_append,Nat.add_assoc,List.drop_length_add_append]
  simp
def sD{foff:Nat}{v:β}{i:Int}{p:Operand}{ty:TypeId}(ti:TI E.P ak sz bytes agg z)(hsz:q.sz=sz)(hset:lh r foff q set)(hoff:Nat.ble (foff+q.sz) r.sz=true)(hy:di xs i=some y)(hz:xs.set i.toNat (set y v)=zs)(hp:bk E.N G p (tV (sa l (i.toNat*r.sz+foff))))(V:bk E.N G x (tD q v))(k:RG E ops aJ rest (ff r U l cap zs::aK) G):
  RG E ops aJ (⟨none,.store ak p x,ty,pos,after,none⟩::rest) (ff r U l cap xs::aK) G:= .of rfl fun a w S st=>by
 subst hz
 have I:a.eval p=sa l (i.toNat*r.sz+foff):=hp S a st.facts
 obtain⟨ds,K,h3⟩:=V S a st.facts
 obtain⟨h0,hy'⟩:=m9 hy
 have hlt:i.toNat<xs.length:=(pP.1 hy').1
 obtain⟨cells,hraw,hrc,hno⟩:=st.own.1.1
 obtain⟨b,cur,rfl,M,hle,hcs,h6⟩:=yg st.own.1.1 hy'
 obtain⟨cur',hb',hle',hmax,hcs',hct⟩:=hraw
 have hcc:cur' =cur:=by rw [M]at hb';injection hb' with e;injection e with e1;exact e1.symm
 subst hcc
 have hno' :S b=none:=hno b rfl
 have hoff' :=rL hoff
 have hl3:=q.len h3
 have hmul:i.toNat*r.sz+r.sz<=xs.length*r.sz:=by rw [<-Fu];exact BJ _ hlt
 have hmul2:xs.length*r.sz<=cur'.size:=by rw [hcs];exact BJ _ hle
 obtain⟨w',hr,e1,e2,e3,e4,e5,e6⟩:=lv ti hsz h3 M (off:=i.toNat*r.sz+foff) (by omega)
 have hrun:(execOp a.eval ⟨none,.store ak p x,ty,pos,after,none⟩).run E.P w= .ok .skip w' :=by
  simp [execOp,I,K,Instr.storeAt,sa,ba,Instr.sureAddr,hr]
 refine⟨fun c h=>(by cases h),?_⟩
 rw [hrun]
 have hnew:=hset S _ _ _ _ h6 h3
 have hrc' :=DF hnew hrc hlt
 have hcl:=rD hrc
 have hcells:(cur'.toList.take (i.toNat*r.sz+foff)++ds++cur'.toList.drop (i.toNat*r.sz+foff+q.sz)).take (xs.length*r.sz)=
   cells.take (i.toNat*r.sz)++(((cur'.toList.drop (i.toNat*r.sz)).take r.sz).take foff++ds++((cur'.toList.drop (i.toNat*r.sz)).take r.sz).drop (foff+q.sz))++cells.drop (i.toNat*r.sz+r.sz):=by
  subst hct
  apply Nf
  intro j
  simp only [List.getElem?_take,List.getElem?_append,zU,B4,GR,ju,GV]
  rcases uy j (xs.length*r.sz)with hj|hj
  ·simp only [hj,gx]
   rcases uy j (i.toNat*r.sz)with hj1|hj1
   ·rw [br (by omega),br (by omega),br (by omega),br (by omega),br (by omega),br (by omega)]
   ·rcases uy j (i.toNat*r.sz+foff)with hj2|hj2
    ·rw [br (by omega),br (by omega),br (by omega),br (by omega),aS (by omega),br (by omega),br (by omega),br (by omega),br (by omega)]
     congr 1;omega
    ·rcases uy j (i.toNat*r.sz+foff+q.sz)with hj3|hj3
     ·rw [br (by omega),aS (by omega),br (by omega),aS (by omega),br (by omega),aS (by omega)]
      congr 1;omega
     ·rw [aS (by omega)]
      rcases uy j (i.toNat*r.sz+r.sz)with hj4|hj4
      ·rw [br (by omega),aS (by omega),aS (by omega),br (by omega)]
       congr 1;omega
      ·rw [aS (by omega),br (by omega)]
       congr 1;omega
  ·rw [aS (by omega),aS (by omega),aS (by omega)]
 obtain⟨g1,g2,g3⟩:=sw (aK:=aK) st.sat (ff r U (some b) cap xs) (ff r U (some b) cap (xs.set i.toNat (set y v))) st.own (fun k=>⟨fun h=>(sI h).symm,fun h=>by rw [h];rfl⟩) (fun k=>⟨fun h=>(sI h).symm,fun h=>by rw [h];rfl⟩) ⟨e1,e2,e3,e4.1,e4.2⟩ e6
  ⟨_,⟨_,e5,by rw [JH];exact hle,hmax,by simp only [JL,ju,B4,GR,GV];omega,by rw [JH];exact hcells⟩,hrc',fun k hk=>by rw [<-sI hk];exact hno'⟩ hno'
 exact k _ _ S ⟨st.ext.step g1 (fun c hc=>st.own.1.2 c (by rw [hc];rfl)),g2,g3,st.facts⟩

def qU(sz:Nat)(l:Option Nat)(cap lo n:Nat):Value:=
 match l with
 |none=> .slice none 0 0
 |some b=> .slice (some ⟨b,if cap=lo then 0 else lo*sz,none⟩) n (cap-lo)
section
variable{ty:TypeId}
def Ki(h:Fi mm r U l cap xs w S): ∃ad c,bw l cap xs.length= .slice ad xs.length c/\xs.length<=c/\ad=l.map (fun b=>⟨b,0,none⟩)/\(l=none->c=0/\xs=[])/\(l≠none->c=cap):=by
 obtain⟨cells,I,_⟩:=h
 cases l with
 |none=>
  have V:xs=[]:=vZ I.1
  subst V
  exact⟨none,0,rfl,fa _,rfl,fun _=>⟨rfl,rfl⟩,fun h=>absurd rfl h⟩
 |some b=>
  obtain⟨cur,_,g2,_⟩:=I
  exact⟨_,cap,rfl,g2,rfl,fun h=>(by cases h),fun _=>rfl⟩
def mj{hi:Operand}(Y:E.P.underlying t=some (.slice ak))(ti:TI E.P ak sz bytes agg z)(hsz:r.sz=sz)(hm:oq mm r U l cap xs∈aK)(V:bk E.N G x (tV (bw l cap n)))(hhi:bk E.N G hi (tD (rI k') j))(h:eS xs 0 j=some ys)(hn:n=xs.length:=by rfl):cz E aK G ⟨dst,.slice t x none (some hi) none,ty,pos,after,g⟩ (tV (bw l cap ys.length)):=
 .of_pure fun a w S _ ho hf=>by
  subst hsz
  subst hn
  have I:a.eval x=bw l cap xs.length:=V S a hf
  obtain⟨ad,c,K,h3,h4,h5,h5'⟩:=Ki (ho.mem _ hm).1
  have h6:=dL.1 (hhi S a hf)
  obtain⟨lo,m,hl,rfl,h7,h8,rfl⟩:=jv h
  have hl0:lo=0:=by omega
  subst hl0
  have hlen:((xs.take m).drop 0).length=m:=by simp;omega
  refine⟨_,?_,rfl⟩
  rw [K]at I
  have hr:(execOp a.eval ⟨dst,.slice t x none (some hi) none,ty,pos,after,g⟩).run E.P w= .ok (.value (.slice ad m c)) w:=by
   simp [execOp,Instr.sliceAt,I,h6,Instr.slice,nc Y,Instr.sliceBounds,nN (k:=k') (n:=(m:Int)) (y:=c) (by omega) (by omega),ti.sizeOf]
   cases ad<;>simp [Addr.add]
  rw [hr,hlen,h4]
  cases l with
  |none=>
   obtain⟨rfl,rfl⟩:=h5 rfl
   have:m=0:=by simpa using h8
   subst this;rfl
  |some b=>rw [h5' (by simp)];rfl
def qq{lo:Operand}{i:Int}(Y:E.P.underlying t=some (.slice ak))(ti:TI E.P ak sz bytes agg z)(hsz:r.sz=sz)(hm:oq mm r U l cap xs∈aK)(V:bk E.N G x (tV (bw l cap n)))(hlo:bk E.N G lo (tD (rI k) i))(h:eS xs i (xs.length:Int)=some ys)(hn:n=xs.length:=by rfl):cz E aK G ⟨dst,.slice t x (some lo) none none,ty,pos,after,g⟩ (tV (qU sz l cap i.toNat ys.length)):=
 .of_pure fun a w S _ ho hf=>by
  subst hsz
  subst hn
  have I:a.eval x=bw l cap xs.length:=V S a hf
  obtain⟨ad,c,K,h3,h4,h5,h5'⟩:=Ki (ho.mem _ hm).1
  have h6:=dL.1 (hlo S a hf)
  obtain⟨lo',m,rfl,hm',h7,h8,rfl⟩:=jv h
  have hm2:m=xs.length:=by omega
  subst hm2
  have hlen:((xs.take xs.length).drop lo').length=xs.length-lo' :=by simp
  refine⟨_,?_,rfl⟩
  rw [K]at I
  have hr:(execOp a.eval ⟨dst,.slice t x (some lo) none none,ty,pos,after,g⟩).run E.P w= .ok (.value (.slice (if c=lo' then ad else ad.map (·.add (lo' *r.sz))) (xs.length-lo') (c-lo'))) w:=by
   simp [execOp,Instr.sliceAt,I,h6,Instr.slice,nc Y,Instr.sliceBounds,nN (k:=k) (n:=(lo' :Int)) (y:=xs.length) (by omega) (by omega),ti.sizeOf]
  rw [hr,hlen,h4]
  cases l with
  |none=>
   obtain⟨rfl,rfl⟩:=h5 rfl
   have:lo' =0:=by simpa using h7
   subst this;rfl
  |some b=>
   rw [h5' (by simp)]
   unfold qU
   simp only [BH,Option.map_some,lg,Ab]
   split<;>rfl
def Hf{i:Int}(h:eS xs lo hi=some ys)(hy:di ys i=some y):di xs (lo+i)=some y/\0<=lo/\0<=i:=by
 obtain⟨l,m,rfl,rfl,I,K,rfl⟩:=jv h
 obtain⟨h0,h3⟩:=m9 hy
 refine⟨?_,by omega,h0⟩
 obtain⟨j,rfl⟩: ∃j:Nat,i=j:=⟨i.toNat,by omega⟩
 rw [show((l:Int)+(j:Int))=((l+j:Nat):Int)from by omega,cO]
 rw [zU,BH]at h3
 have hlt:l+j<m:=by
  have:=(pP.1 h3).1
  simp at this;omega
 rwa [EG hlt]at h3
def Ju{e:TypeId}{i:Int}(Y:E.P.underlying t=some (.slice e))(ti:TI E.P e sz bytes agg z)(hsz:r.sz=sz)(hm:oq mm r U l cap xs∈aK)(hs:eS xs lo hi=some ys)(V:bk E.N G x (tV (qU sz l cap lo.toNat ys.length)))(hi' :bk E.N G ix (tD (rI k) i))(hy:di ys i=some y):
  cz E aK G ⟨dst,.indexAddr t x ix,ty,pos,after,g⟩ (tV (sa l ((lo+i).toNat*sz+0))):=
 .of_pure fun a w S _ ho hf=>by
  subst hsz
  have I:a.eval x=qU r.sz l cap lo.toNat ys.length:=V S a hf
  have h3:a.eval ix= .int k i:=dL.1 (hi' S a hf)
  obtain⟨hxi,hl0,hi0⟩:=Hf hs hy
  obtain⟨_,hx'⟩:=m9 hxi
  obtain⟨b,cur,rfl,_,hle,_⟩:=yg (ho.mem _ hm).1 hx'
  have hlt:i.toNat<ys.length:=(pP.1 (m9 hy).2).1
  have hlt2:(lo+i).toNat<xs.length:=(pP.1 hx').1
  have hne: ¬(cap=lo.toNat):=by omega
  refine⟨_,?_,rfl⟩
  have hc:0<=i/\i<(ys.length:Int):=⟨hi0,by omega⟩
  have e1:(lo+i).toNat=lo.toNat+i.toNat:=by omega
  simp [execOp,I,h3,qU,hne,Instr.indexAt,asIntOf,nc Y,hc,ti.sizeOf,lg,sa,ba,e1,wO]
def XE{e:TypeId}(Y:E.P.underlying t=some (.slice e))(hm:oq mm r U l cap xs∈aK)(hs:eS xs lo hi=some ys)(V:bk E.N G x (tV (qU sz l cap lo.toNat ys.length))):
  cz E aK G ⟨dst,.call ⟨.builtin .len,#[x],#[t]⟩,ty,pos,after,g⟩ (tD (rI .i64) (ys.length:Int)):=
 .of_pure fun a w S _ ho hf=>by
  have I:a.eval x=qU sz l cap lo.toNat ys.length:=V S a hf
  obtain⟨ad,c,h3⟩: ∃ad c,qU sz l cap lo.toNat ys.length= .slice ad ys.length c:=by
   cases l with
   |none=>
    obtain⟨_,K,_⟩:=(ho.mem _ hm).1
    have hx0:xs=[]:=vZ K.1
    subst hx0
    obtain⟨l',m,_,_,_,h8,rfl⟩:=jv hs
    exact⟨none,0,by simp [qU]⟩
   |some b=>exact⟨_,_,rfl⟩
  refine⟨.int .i64 ys.length,?_,dL.2 rfl⟩
  simp [execOp,resolve,invoke,builtin,Builtin.len_,nc Y,I,h3,goInt]
end
def ZL(h:eS xs 0 j=some ys)(k:Fi false r U l cap xs w S):Fi false r U l cap ys w S:=by
 obtain⟨lo,m,hl,rfl,h7,h8,rfl⟩:=jv h
 have hl0:lo=0:=by omega
 subst hl0
 obtain⟨cells,I,K,h3⟩:=k
 have hlen:((xs.take m).drop 0).length=m:=by simp;omega
 have h4:xE r S (cells.take (m*r.sz)) (xs.take m):=by
  have e:xs=xs.take m++xs.drop m:=(xQ _ _).symm
  rw [e]at K
  have:=(tR K).1
  rwa [show(xs.take m).length=m from by simp;omega]at this
 refine⟨cells.take (m*r.sz),?_,by simpa using h4,fun b M=>h3 b M⟩
 rw [hlen]
 cases l with
 |none=>
  obtain⟨g1,g2⟩:=I
  exact⟨by omega,by rw [g2];simp⟩
 |some b=>
  obtain⟨cur,g1,g2,g3,g4,g5⟩:=I
  exact⟨cur,g1,by omega,g3,g4,by rw [<-g5,BF,Df (BJ _ h8)]⟩
def St.cut(h:eS xs 0 j=some ys)(st:St E (ff r U l cap xs::aK) G a w S):St E (ff r U l cap ys::aK) G a w S:=
 st.own_map fun ho=>⟨⟨ZL h ho.1.1,ho.1.2⟩,ho.2.1,ho.2.2⟩
def xJ(h:eS xs 0 j=some ys)(k:RG E ops aJ rest (ff r U l cap ys::aK) G):RG E ops aJ rest (ff r U l cap xs::aK) G:=fun a w S st=>k a w S (st.cut h)
end

variable{x0 x4 x5 x6 x7 x8 x9:OE}
section
variable{e:Exit}
def C6{aK:List OE}(h:dN base B w S (x0::x1::x2::x3::x4::x5::aK)):dN base B w S (x5::x0::x1::x2::x3::x4::aK):=
 (uX h wL (fun f hf=>by simp only [gW]at hf ⊢;rcases hf with h|h|h|h|h|h<;>simp [h])).swap
def KP(h:RG E ops aJ rest (x5::x0::x1::x2::x3::x4::aK) G):RG E ops aJ rest (x0::x1::x2::x3::x4::x5::aK) G:=fun a w S st=>h a w S (st.own_map C6)
def La(h:AT E aJ e (x5::x0::x1::x2::x3::x4::aK) G):AT E aJ e (x0::x1::x2::x3::x4::x5::aK) G:=fun a w S st=>h a w S (st.own_map C6)
def wK{aK:List OE}(h:dN base B w S (x0::x1::x2::x3::x4::x5::x6::aK)):dN base B w S (x6::x0::x1::x2::x3::x4::x5::aK):=
 (uX h C6 (fun f hf=>by simp only [gW]at hf ⊢;rcases hf with h|h|h|h|h|h|h<;>simp [h])).swap
def Bz(h:RG E ops aJ rest (x6::x0::x1::x2::x3::x4::x5::aK) G):RG E ops aJ rest (x0::x1::x2::x3::x4::x5::x6::aK) G:=fun a w S st=>h a w S (st.own_map wK)
def yG(h:AT E aJ e (x6::x0::x1::x2::x3::x4::x5::aK) G):AT E aJ e (x0::x1::x2::x3::x4::x5::x6::aK) G:=fun a w S st=>h a w S (st.own_map wK)
def KU(h:LG E aJ c (x6::x0::x1::x2::x3::x4::x5::aK) G):LG E aJ c (x0::x1::x2::x3::x4::x5::x6::aK) G:=fun a w S st=>h a w S (st.own_map wK)
def wJ{aK:List OE}(h:dN base B w S (x0::x1::x2::x3::x4::x5::x6::x7::aK)):dN base B w S (x7::x0::x1::x2::x3::x4::x5::x6::aK):=
 (uX h wK (fun f hf=>by simp only [gW]at hf ⊢;rcases hf with h|h|h|h|h|h|h|h<;>simp [h])).swap
def Ui(h:RG E ops aJ rest (x7::x0::x1::x2::x3::x4::x5::x6::aK) G):RG E ops aJ rest (x0::x1::x2::x3::x4::x5::x6::x7::aK) G:=fun a w S st=>h a w S (st.own_map wJ)
def Ux(h:AT E aJ e (x7::x0::x1::x2::x3::x4::x5::x6::aK) G):AT E aJ e (x0::x1::x2::x3::x4::x5::x6::x7::aK) G:=fun a w S st=>h a w S (st.own_map wJ)
def KT(h:LG E aJ c (x7::x0::x1::x2::x3::x4::x5::x6::aK) G):LG E aJ c (x0::x1::x2::x3::x4::x5::x6::x7::aK) G:=fun a w S st=>h a w S (st.own_map wJ)
def C5{aK:List OE}(h:dN base B w S (x0::x1::x2::x3::x4::x5::x6::x7::x8::aK)):dN base B w S (x8::x0::x1::x2::x3::x4::x5::x6::x7::aK):=
 (uX h wJ (fun f hf=>by simp only [gW]at hf ⊢;rcases hf with h|h|h|h|h|h|h|h|h<;>simp [h])).swap
def K9(h:AT E aJ e (x8::x0::x1::x2::x3::x4::x5::x6::x7::aK) G):AT E aJ e (x0::x1::x2::x3::x4::x5::x6::x7::x8::aK) G:=fun a w S st=>h a w S (st.own_map C5)
def Ul(h:LG E aJ c (x8::x0::x1::x2::x3::x4::x5::x6::x7::aK) G):LG E aJ c (x0::x1::x2::x3::x4::x5::x6::x7::x8::aK) G:=fun a w S st=>h a w S (st.own_map C5)
def IX{aK:List OE}(h:dN base B w S (x0::x1::x2::x3::x4::x5::x6::x7::x8::x9::aK)):dN base B w S (x9::x0::x1::x2::x3::x4::x5::x6::x7::x8::aK):=
 (uX h C5 (fun f hf=>by simp only [gW]at hf ⊢;rcases hf with h|h|h|h|h|h|h|h|h|h<;>simp [h])).swap
def gn(h:AT E aJ e (x9::x0::x1::x2::x3::x4::x5::x6::x7::x8::aK) G):AT E aJ e (x0::x1::x2::x3::x4::x5::x6::x7::x8::x9::aK) G:=fun a w S st=>h a w S (st.own_map IX)
def BC(h:LG E aJ c (x9::x0::x1::x2::x3::x4::x5::x6::x7::x8::aK) G):LG E aJ c (x0::x1::x2::x3::x4::x5::x6::x7::x8::x9::aK) G:=fun a w S st=>h a w S (st.own_map IX)
end

def li(h:xs.set i y=zs):zs.length=xs.length:=by rw [<-h,JH]
section
def g9(hl:m=n)(s:Nat)(hs:cL G s=some (tV (bw l cap n)))(k:RG E ops aJ rest aK ((s,tV (bw l cap m))::G)):RG E ops aJ rest aK G:=by
 subst hl
 exact fun a w S st=>k a w S (st.cons (st.facts.at_ s _ hs))
end

variable{γ:Type}
def yq{s:Rp γ}{o1 o2:Nat}{g1:α->β}{g2:β->γ}(I:qZ r o1 q g1)(K:qZ q o2 s g2)(M:Nat.ble (o2+s.sz) q.sz=true:=by rfl):qZ r (o1+o2) s (fun x=>g2 (g1 x)):=fun S cs x h=>by
 have h3:=K S _ _ (I S cs x h)
 have hb' :=rL M
 rwa [zD,BF,qb,Df (by omega)]at h3
def J0{s:Rp γ}{o1 o2:Nat}{g1:α->β}{u1:α->β->α}{u2:β->γ->β}(I:qZ r o1 q g1)(k1:lh r o1 q u1)(k2:lh q o2 s u2)(M:Nat.ble (o2+s.sz) q.sz=true:=by rfl)(hc:Nat.ble (o1+q.sz) r.sz=true:=by rfl):
  lh r (o1+o2) s (fun x y=>u1 x (u2 (g1 x) y)):=fun S cs x ds y h hy=>by
 have hb' :=rL M
 have hc' :=rL hc
 have hl:=r.len h
 have h3:=k1 S cs x _ _ h (k2 S _ _ ds y (I S cs x h) hy)
 have e:cs.take (o1+o2)++ds++cs.drop (o1+o2+s.sz)=cs.take o1++(((cs.drop o1).take q.sz).take o2++ds++((cs.drop o1).take q.sz).drop (o2+s.sz))++cs.drop (o1+q.sz):=by
  rw [BF,Df (by omega),zD,qb,List.take_add,show o1+(o2+s.sz)=o1+o2+s.sz from by omega]
  simp only [ji]
  congr 3
  have e2:cs.drop (o1+q.sz)=(cs.drop (o1+o2+s.sz)).drop (q.sz-(o2+s.sz)):=by rw [qb];congr 1;omega
  rw [e2,xQ]
 rw [e];exact h3

def ea(P:Program)(f:FuncId)(ts:List Ty)(O1:List OE){ι:Type}(t:ι->Ty)(O2:ι->List OE):Prop:=
 ∀w S vs,lF w S->Aa S ts vs->dN 0 s0 w S O1->Calls P f vs.toArray w fun en w' => ∃i v S',en= .returned v/\(t i).p S' v/\jh (fun k=> ∃f∈O1,f.fp k) w S w' S' /\lF w' S' /\dN 0 s0 w' S' (O2 i)/\ ∀k,(∃f∈O2 i,f.fp k)->(∃f∈O1,f.fp k)\/w.heap.size<=k
def V2(E:En)(O1:List OE){ι:Type}(t:ι->Ty)(O2:ι->List OE):Ending->World->Prop:=fun en w' =>
 ∃i v S',en= .returned v/\(t i).p S' v/\jh E.B E.w0 E.S0 w' S' /\lF w' S' /\dN 0 s0 w' S' (O2 i)/\ ∀k,(∃f∈O2 i,f.fp k)->(∃f∈O1,f.fp k)\/E.w0.heap.size<=k
def CV(O1:List OE):Nat->Prop:=fun k=> ∃f∈O1,f.fp k
def ea.of{t:ι->Ty}(hf:P.funcs[f]? =some fn)(M:fn.body=some c)(hN:fn.ntmps=N)(hn:Nat.ble ts.length N=true)(h: ∀w0 S0,CG ⟨P,⟨N,[]⟩,CV O1,w0,S0,none⟩ (bodyPost P fn (V2 ⟨P,⟨N,[]⟩,CV O1,w0,S0,none⟩ O1 t O2)) c O1 (vh 0 ts)):ea P f ts O1 t O2:=by
 subst hN
 intro w S vs hs hv ho
 exact lE.1 (GP (F:=fw none) (n:=0) hf M trivial (h w S _ w S ⟨jh.refl _ _ _,hs,mw ho fun f hf k hk=> .inr ⟨f,hf,hk⟩,oR hv _ (rL hn)⟩))
def SK{t:ι->Ty}{v:Value}(st:St E aK G a w S)(hB:E.B=CV O1)(i:ι)(hO:aK=O2 i)(hv:(t i).p S v):V2 E O1 t O2 (.returned v) w:=by
 subst hO
 refine⟨i,v,S,rfl,hv,st.ext,st.sat,st.own.weak,fun k ⟨f,hf,hk⟩=>?_⟩
 rcases(dN.mem st.own f hf).2 k hk with h|h
 ·exact .inr h
 ·rw [hB]at h;exact .inl h
section
variable{t:ι->Ty}
def pt{k:Nat}{u:Ty}(hr:fn.results= #[.tmp k])(i:ι)(hO:aK=O2 i)(hk:cL G k=some u)(hu: ∀S v,u.p S v->(t i).p S v):
  AT ⟨P,⟨N,[]⟩,CV O1,w0,S0,none⟩ (bodyPost P fn (V2 ⟨P,⟨N,[]⟩,CV O1,w0,S0,none⟩ O1 t O2)) .ret aK G:=fun _ _ S st=>
 ⟨st.facts.defers,_,o9 P fn k hr _ _,SK st rfl i hO (hu S _ (st.facts.at_ k u hk))⟩
end
def Ey: ∀{O1 O2:List OE},dN base B w S O1->dN base B w S O2->(∀e∈O1,∀f∈O2,e.apart f)->dN base B w S (O1++O2)
 |[],_,_,h,_=>h
 |e::O1,O2,⟨I,K,h3⟩,h,ha=>⟨I,fun f hf=>(BG.1 hf).elim (K f) (ha e (mp ..) f),Ey h3 h fun g H f hf=>ha g (lT _ H) f hf⟩
section
variable{ty:TypeId}
def St.turn{Or O2:List OE}(st:St E (O1++Or) G a w S)(V:jh (fun k=> ∃f∈O1,f.fp k) w S w' S')(hs:lF w' S')(ho:dN 0 s0 w' S' O2)(hn: ∀k,(∃f∈O2,f.fp k)->(∃f∈O1,f.fp k)\/w.heap.size<=k):St E (O2++Or) G a w' S' :=by
 obtain⟨I,K,h3⟩:=pO st.own
 have hbl:=st.base_le
 refine⟨st.ext.step V (fun b ⟨f,hf,M⟩=>(dN.mem I f hf).2 b M),hs,Ey (mw ho fun f hf k hk=>?_) (K.ext V fun f hf b M ⟨g,H,hgb⟩=>h3 g H f hf b hgb M) (fun e he f hf b heb hfb=>?_),st.facts.mono V.keep⟩
 ·rcases hn k ⟨f,hf,hk⟩with⟨g,H,hgk⟩|h
  ·exact(dN.mem I g H).2 k hgk
  ·exact .inl (BZ hbl h)
 ·rcases hn b ⟨e,he,heb⟩with⟨g,H,hgb⟩|h
  ·exact h3 g H f hf b hgb hfb
  ·have:=f.here (dN.mem K f hf).1 b hfb
   omega
def Ex{xs:List Operand}(O1 Or:List OE){t:ι->Ty}(hO:aK=O1++Or)(hc:aj E.P f=true)(hs:ea E.P f ts O1 t O2)(V:kp E.N G xs ts)(hd:Nat.blt d E.N.n=true)(k: ∀i,RG E ops aJ rest (O2 i++Or) ((d,t i)::G)):
  RG E ops aJ (⟨some d,.call ⟨.value (.func f),xs.toArray,ats⟩,ty,pos,after,none⟩::rest) aK G:= .of rfl fun a w S st=>by
 subst hO
 have hr:(execOp a.eval ⟨some d,.call ⟨.value (.func f),xs.toArray,ats⟩,ty,pos,after,none⟩).run E.P w= .ok (.enter f (xs.map a.eval).toArray) w:=by
  simp [execOp,resolve,Act.eval,Deferred.ofValue,invoke,fZ hc]
 refine⟨fun c h=>(by cases h),?_⟩
 rw [hr]
 refine(hs w S _ st.sat (V.tys st.facts) (pO st.own).1.weak).mono fun en w' ⟨i,v,S',he,hv,I,K,h3,h4⟩=>⟨_,he,?_⟩;exact k i _ _ S' ((st.turn I K h3 h4).put hd hv)
end

structure OI where
 h:Nat->Option Nat×Nat:=fun _=>(none,0)
 os:List (Option Nat×Nat):=[]
 fp:Nat->Prop:=s0
 v:Value:=undef
 ng:Nat->(Option Nat×Nat)×(Nat->Option Nat×Nat):=fun _=>((none,0),fun _=>(none,0))
def sF:OI:={}
def oi(l:Option Nat)(c:Nat):OI:={h:=fun _=>(l,c)}
def EffOK(E:En)(aK:List OE)(need:nt)(o:Oper)(post:OI->List OE)(t:OI->Ty):Prop:=
 ∀a w S,lF w S->dN E.base E.B w S aK->eJ E.N S a need->E.base<=w.heap.size->
  Oc E.P o a w (fun a' w' => ∃v S' x,a' =a.put o.dst v/\jh (CV aK) w S w' S' /\lF w' S' /\dN E.base E.B w' S' (post x)/\(t x).p S' v)
variable{op:Op}{post:OI->List OE}{t' :TypeId}
section
variable{ty:TypeId}
def QR{y:Operand}{u:OI->Ty}(ti:TI E.P ak sz bytes agg z)(hsz:r.sz=sz)(hz:Nat.beq z.length sz=true)(h0:Nat.blt 0 sz=true)(h128:Nat.ble bytes 2048=true)(Y:E.P.underlying t=some (.slice ak))(V:bk E.N G x (tV (bw l cap n)))(hy: ∀a w S,lF w S->eJ E.N S a G-> ∃news,Src E.P r.sz t' (a.eval y) ys.length news w/\xE r S news ys)(happ:app xs ys=some zs)(hu: ∀l' cap' w0 S,(oq mm r ak l' cap' zs).p w0 S->(u (oi l' cap')).p S (bw l' cap' zs.length))(hn:n=xs.length):
  EffOK E (oq mm r ak l cap xs::aK) G ⟨some d,.call ⟨.builtin .append,#[x,y],#[t,t']⟩,ty,pos,after,g⟩ (fun i=>oq mm r ak (i.h 0).1 (i.h 0).2 zs::aK) u:=fun a w S hs ho hf M=>by
 subst hn
 have I:a.eval x=bw l cap xs.length:=V S a hf
 obtain⟨news,K,h3⟩:=hy a w S hs hf
 obtain⟨l',cap',w',S',hr,hext,hsat,hh,hnew⟩:=Au (ty:=ty) ti hsz hz h0 h128 Y hs ho.1 M K h3 happ
 have hrun:(execOp a.eval ⟨some d,.call ⟨.builtin .append,#[x,y],#[t,t']⟩,ty,pos,after,g⟩).run E.P w= .ok (.value (bw l' cap' zs.length)) w' :=by
  simp [execOp,resolve,invoke,builtin,I,hr]
 refine⟨fun c h=>(by cases h),?_⟩
 rw [hrun]
 refine⟨_,S',oi l' cap',rfl,hext.more fun b M=>⟨_,mp ..,M⟩,hsat,⟨hh,fun f hf b M hfb=>?_,ho.2.2.ext hext fun f hf b M hbl=>ho.2.1 f hf b hbl M⟩,hu l' cap' w' S' hh.1⟩
 rcases hnew b M with h|h
 ·exact ho.2.1 f hf b h hfb
 ·have:=f.here (dN.mem ho.2.2 f hf).1 b hfb
  omega
def xp{y:Operand}(ti:TI E.P ak sz bytes agg z)(hsz:r.sz=sz)(hz:Nat.beq z.length sz=true)(h0:Nat.blt 0 sz=true)(h128:Nat.ble bytes 2048=true)(Y:E.P.underlying t=some (.slice ak))(ht' :t' =t)(V:bk E.N G x (tO r l cap xs))(hy:bk E.N G y (tD (f9 r) ys))(happ:app xs ys=some zs):
  EffOK E (gO r ak l cap xs::aK) G ⟨some d,.call ⟨.builtin .append,#[x,y],#[t,t']⟩,ty,pos,after,g⟩ (fun i=>gO r ak (i.h 0).1 (i.h 0).2 zs::aK) (fun i=>tO r (i.h 0).1 (i.h 0).2 zs):=by
 subst ht'
 exact QR ti hsz hz h0 h128 Y (Nw V) (fun a w S hs hf=>Ar Y hs (hy S a hf)) happ (fun _ _ _ _ h=>⟨rfl,sO h⟩) rfl
def T9{xs:List Operand}{u:OI->Ty}(hc:aj E.P f=true)(hs:fR E.P f ts mm r ak ys)(V:kp E.N G xs ts)(hu: ∀l cap w0 S,(oq mm r ak l cap ys).p w0 S->(u (oi l cap)).p S (bw l cap ys.length)):
  EffOK E aK G ⟨some d,.call ⟨.value (.func f),xs.toArray,ats⟩,ty,pos,after,g⟩ (fun i=>oq mm r ak (i.h 0).1 (i.h 0).2 ys::aK) u:=fun a w S hsat ho hf M=>by
 have hr:(execOp a.eval ⟨some d,.call ⟨.value (.func f),xs.toArray,ats⟩,ty,pos,after,g⟩).run E.P w= .ok (.enter f (xs.map a.eval).toArray) w:=by
  simp [execOp,resolve,Act.eval,Deferred.ofValue,invoke,fZ hc]
 refine⟨fun c h=>(by cases h),?_⟩
 rw [hr]
 exact(hs w S _ hsat (V.tys hf)).mono fun e w' ⟨l,cap,S',he,I,K,h3⟩=>⟨_,he,_,S',oi l cap,rfl,I.more fun _ M=>M.elim,K,sZ ho I h3.1 (fun b M=>(h3.2 b M).resolve_right id) M,hu l cap w' S' h3.1⟩
def dN.turn{Or O2:List OE}(h:dN base B w S (O1++Or))(hbl:base<=w.heap.size)(V:jh (CV O1) w S w' S')(ho:dN 0 s0 w' S' O2)(hn: ∀k,(∃f∈O2,f.fp k)->(∃f∈O1,f.fp k)\/w.heap.size<=k):dN base B w' S' (O2++Or):=by
 obtain⟨I,K,h3⟩:=pO h
 refine Ey (mw ho fun f hf k hk=>?_) (K.ext V fun f hf b M ⟨g,H,hgb⟩=>h3 g H f hf b hgb M) (fun e he f hf b heb hfb=>?_)
 ·rcases hn k ⟨f,hf,hk⟩with⟨g,H,hgk⟩|h
  ·exact(dN.mem I g H).2 k hgk
  ·exact .inl (BZ hbl h)
 ·rcases hn b ⟨e,he,heb⟩with⟨g,H,hgb⟩|h
  ·exact h3 g H f hf b hgb hfb
  ·have:=f.here (dN.mem K f hf).1 b hfb
   omega
def T8{xs:List Operand}(O1 Or:List OE){t:OI->Ty}{O2:OI->List OE}(hO:aK=O1++Or)(hc:aj E.P f=true)(hs:ea E.P f ts O1 t O2)(V:kp E.N G xs ts)(hpost: ∀i,O2 i++Or=post i):
  EffOK E aK G ⟨some d,.call ⟨.value (.func f),xs.toArray,ats⟩,ty,pos,after,g⟩ post t:=fun a w S hsat ho hf M=>by
 subst hO
 obtain rfl:(fun i=>O2 i++Or)=post:=funext hpost
 have hr:(execOp a.eval ⟨some d,.call ⟨.value (.func f),xs.toArray,ats⟩,ty,pos,after,g⟩).run E.P w= .ok (.enter f (xs.map a.eval).toArray) w:=by
  simp [execOp,resolve,Act.eval,Deferred.ofValue,invoke,fZ hc]
 refine⟨fun c h=>(by cases h),?_⟩
 rw [hr]
 exact(hs w S _ hsat (V.tys hf) (pO ho).1.weak).mono fun en w' ⟨i,v,S',he,hv,I,K,h3,h4⟩=>⟨_,he,v,S',i,rfl,I.more fun b ⟨f,hf,M⟩=>⟨f,JO _ hf,M⟩,K,dN.turn ho M I h3 h4,hv⟩
def C3{t:OI->Ty}(h:EffOK E aK G ⟨some d,op,ty,pos,after,none⟩ post t)(hd:Nat.blt d E.N.n=true)(k: ∀x:OI,RG E ops aJ rest (post x) ((d,t x)::G)):RG E ops aJ (⟨some d,op,ty,pos,after,none⟩::rest) aK G:= .of rfl fun a w S st=>
 qI (fun a' w' ⟨v,S',x,ha,V,hs,ho,hv⟩=>by
  subst ha
  exact k x _ _ S' ⟨st.ext.step V fun b ⟨f,hf,M⟩=>(dN.mem st.own f hf).2 b M,hs,ho,(st.facts.mono V.keep).put hd hv⟩) (h a w S st.sat st.own st.facts st.base_le)
end

def upd(σ:Nat->OI)(k:Nat)(x:OI):Nat->OI:=fun j=>bif Nat.beq j k then x else σ j
def UG(σ:Nat->OI){k j:Nat}(x:OI)(h:j≠k):upd σ k x j=σ j:=by
 have:Nat.beq j k=false:=by
  cases M:Nat.beq j k with
  |false=>rfl
  |true=>exact absurd (wQ M) h
 simp [upd,this]
structure NE where
 slot:Nat
 ty:(Nat->OI)->Ty
 src:Option Nat
def rz(E:En)(ops:Array Oper)(aK:List OE)(need:nt)(o:Oper)(post:OI->List OE)(t:OI->Ty):Prop:=
 ∀a w S,lF w S->dN E.base E.B w S aK->eJ E.N S a need->E.base<=w.heap.size->
  if Region.wanted o (yielded ops a.tmps)then Oc E.P o a w (fun a' w' => ∃v S' x,a' =a.put o.dst v/\jh (CV aK) w S w' S' /\lF w' S' /\dN E.base E.B w' S' (post x)/\(t x).p S' v)
  else∃x,dN E.base E.B w S (post x)/\(t x).p S undef
def dS{need:nt}{t:OI->Ty}(H:o.guard=none)(h:EffOK E aK need o post t):rz E ops aK need o post t:=fun a w S hs ho hf M=>by
 have:Region.wanted o (yielded ops a.tmps)=true:=by unfold Region.wanted;rw [H]
 rw [this,br rfl]
 exact h a w S hs ho hf M
def aaW(es:List Bool)(i:Nat):Nat:=(es.take i).countP (· ==true)
structure DJE(E:En)(G:nt)(l:List Oper)(ts:List (OI->Ty))(Om:Nat->(Nat->OI)->List OE)(es:List Bool)(done:Array Bool)(a:Act)(w:World)(S:SH)(σ:Nat->OI)(c:Nat):Prop where
 ext:jh E.B E.w0 E.S0 w S
 sat:lF w S
 own:dN E.base E.B w S (Om c σ)
 size:a.tmps.size=E.N.n
 defers:a.defers=E.N.ds
 dsz:done.size=l.length
 down: ∀j o,l[j]? =some o->done.getD j false=true-> ∀e∈o.after,Region.binds .any e=true->done.getD e.on false=true
 old: ∀k t,cL G k=some t->(∀j o,l[j]? =some o->done.getD j false=true->o.dst≠some k)->t.p S (a.tmps.getD k undef)
 new: ∀j o d f,l[j]? =some o->done.getD j false=true->o.dst=some d->ts[j]? =some f->(f (σ j)).p S (a.tmps.getD d undef)
 chain: ∀k,es[k]? =some true->(done.getD k false=true↔aaW es k<c)
section
variable{L:List Oper}{ts:List (OI->Ty)}{Om:Nat->(Nat->OI)->List OE}{es:List Bool}
end

section
variable{ty:TypeId}
def vR(Y:E.P.underlying t=some (.slice e))(V:bk E.N G x (tV (.slice none 0 0))):cz E aK G ⟨dst,.call ⟨.builtin .len,#[x],#[t]⟩,ty,pos,after,g⟩ (tD (rI .i64) (0:Int)):=
 .of_pure fun a w S _ _ hf=>by
  have I:a.eval x= .slice none 0 0:=V S a hf
  refine⟨.int .i64 0,?_,dL.2 rfl⟩
  simp [execOp,resolve,invoke,builtin,Builtin.len_,nc Y,I,goInt]
def vS(Y:E.P.underlying t=some (.slice e))(V:bk E.N G x (tV (.slice none 0 0))):cz E aK G ⟨dst,.call ⟨.builtin .cap,#[x],#[t]⟩,ty,pos,after,g⟩ (tD (rI .i64) (0:Int)):=
 .of_pure fun a w S _ _ hf=>by
  have I:a.eval x= .slice none 0 0:=V S a hf
  refine⟨.int .i64 0,?_,dL.2 rfl⟩
  simp [execOp,resolve,invoke,builtin,Builtin.cap_,nc Y,I,goInt]
def AI{hi:Operand}(Y:E.P.underlying t=some (.slice ak))(ti:TI E.P ak sz bytes agg z)(V:bk E.N G x (tV (.slice none 0 0)))(hhi:bk E.N G hi (tD (rI k) (0:Int))):
  cz E aK G ⟨dst,.slice t x none (some hi) none,ty,pos,after,g⟩ (tV (.slice none 0 0)):=
 .of_pure fun a w S _ _ hf=>by
  have I:a.eval x= .slice none 0 0:=V S a hf
  have h6:=dL.1 (hhi S a hf)
  refine⟨.slice none 0 0,?_,rfl⟩
  have M:=nN (P:=E.P) (w:=w) (k:=k) (n:=(0:Int)) (y:=0) (code:= .sliceAcap) (by omega) (by omega)
  simp [execOp,Instr.sliceAt,I,h6,Instr.slice,nc Y,Instr.sliceBounds,M,nN (k:=k) (n:=(0:Int)) (y:=0) (by omega) (by omega),ti.sizeOf]
end

def qe{α:Type}(n:Int)(z:α):Option (List α):=if 0<=n/\n<=68719476736 then some (List.replicate n.toNat z)else none
def Al{n:Int}{z:α}(h:qe n z=some zs): ∃m:Nat,n=m/\m<=68719476736/\zs=List.replicate m z:=by
 unfold qe at h
 split at h
 ·rename_i hc;exact⟨n.toNat,by omega,by omega,by simpa using h.symm⟩
 ·cases h
def yf{α:Type}{r:Rp α}{x:α}{z:List Value}(V: ∀S,r.rc S z x)(S:SH): ∀n:Nat,xE r S (List.replicate n z).flatten (List.replicate n x)
 |0=>rfl
 |n+1=>⟨z,_,by rw [List.replicate_succ,List.flatten_cons],V S,yf V S n⟩
def HI(z:List Value):(List.range z.length).map (fun i=>z[i%z.length]?.getD default)=z:=by
 apply Nf
 intro k
 rcases uy k z.length with h|h
 ·rw [GU,List.getElem?_range h]
  simp [Fw h,h]
 ·rw [GW (by simpa using h),GW h]
def qD(z:List Value)(n:Nat):(Builtin.zeroCells z.toArray n).toList=(List.replicate n z).flatten:=by
 unfold Builtin.zeroCells
 simp
 induction n with
 |zero=>simp
 |succ n ih=>
  rw [List.replicate_succ,List.flatten_cons,<-ih,Fu,Nat.add_comm,List.range_add,List.map_append,HI,List.map_map]
  congr 1
  apply JM
  intro i _
  simp
def ym(z:List Value)(n sz:Nat)(h:z.length=sz):(madeCells z.toArray (n*sz)).toList=(List.replicate n z).flatten:=by
 subst h
 have:=qD z n
 unfold Builtin.zeroCells at this
 unfold madeCells
 simpa using this
section
variable{ty:TypeId}
def flat_len(h:z.length=sz)(n:Nat):(List.replicate n z).flatten.length=n*sz:=by
 simp [h]
def V5{x:α}{n:Int}{y y' :Operand}(ti:TI E.P ak sz bytes agg z)(hsz:r.sz=sz)(hz:Nat.beq z.length sz=true)(h128:Nat.ble bytes 2048=true)(Y:E.P.underlying t=some (.slice ak))(V: ∀S,r.rc S z x)(hy:bk E.N G y (tD (rI k) n))(hy' :bk E.N G y' (tD (rI k') n))(h:qe n x=some zs):
  EffOK E aK G ⟨some d,.makeSlice t y y',ty,pos,after,g⟩ (fun i=>ff r ak (i.h 0).1 (i.h 0).2 zs::aK) (fun i=>tV (bw (i.h 0).1 (i.h 0).2 zs.length)):=fun a w S hs ho hf M=>by
 subst hsz
 obtain⟨i,zv,hi,I,K,h3,h4⟩:=ti.get
 obtain⟨m,rfl,hm,rfl⟩:=Al h
 have hyv:=dL.1 (hy S a hf)
 have hyv' :=dL.1 (hy' S a hf)
 have hz2:z.length=r.sz:=wQ hz
 have h128' :=rL h128
 have hbytes:(i.bytes:Int)*(m:Int)<=281474976710656:=by
  have:i.bytes*m<=2048*68719476736:=zP (by omega) hm
  have h5:((i.bytes*m:Nat):Int)<=281474976710656:=by omega
  rwa [Ag]at h5
 have hr:=run_make (P:=E.P) w t ak i zv Y hi h3 k k' (m:Int) (m:Int) (by omega) (Int.le_refl _) hbytes (by omega)
 rw [BH,I,h4]at hr
 obtain⟨he,hs',hno⟩:=iD (w:=w) (.cells (madeCells z.toArray (m*r.sz)) ak (0,0)) hs
 have hrun:(execOp a.eval ⟨some d,.makeSlice t y y',ty,pos,after,g⟩).run E.P w= .ok (.value (.slice (some ⟨w.heap.size,0,none⟩) m m)) (w.alloc (.cells (madeCells z.toArray (m*r.sz)) ak (0,0))):=by
  simp [execOp,hyv,hyv',hr]
 refine⟨fun c h=>(by cases h),?_⟩
 rw [hrun]
 have hfl:=flat_len hz2 m
 refine⟨_,S,oi (some w.heap.size) m,rfl,he.more fun _ M=>M.elim,hs',sZ ho he (e:=ff r ak (some w.heap.size) m (List.replicate m x)) ⟨(List.replicate m z).flatten,⟨_,Af w _,by simp,by simp only [maxLen];omega,by rw [size_madeCells],?_⟩,yf V S m,fun b M=>by rw [<-sI M];exact hno⟩ (fun b M=>Di (sI M)) M,?_⟩
 ·rw [ym z m r.sz hz2,FD]
  exact u0 (by omega)
 ·show _=bw _ _ _
  rw [FD];rfl
def AX{x:α}{n:Int}{s y:Operand}{kn:IntKind}(ti:TI E.P ak sz bytes agg z)(hsz:r.sz=sz)(hz:Nat.beq z.length sz=true)(h0:Nat.blt 0 sz=true)(h128:Nat.ble bytes 2048=true)(Y:E.P.underlying t=some (.slice ak))(ht' :E.P.underlying t' =some (.int kn))(V: ∀S,r.rc S z x)(hs' :bk E.N G s (tV (.slice none 0 0)))(hy:bk E.N G y (tD (rI k) n))(hn:0<n)(h:qe n x=some zs):
  EffOK E aK G ⟨some d,.call ⟨.builtin .append,#[s,y],#[t,t']⟩,ty,pos,after,g⟩ (fun i=>ff r ak (i.h 0).1 (i.h 0).2 zs::aK) (fun i=>tV (bw (i.h 0).1 (i.h 0).2 zs.length)):=fun a w S hs ho hf M=>by
 subst hsz
 obtain⟨i,zv,hi,I,K,h3,h4⟩:=ti.get
 obtain⟨m,rfl,hm,rfl⟩:=Al h
 have hsv:a.eval s= .slice none 0 0:=hs' S a hf
 have hyv:=dL.1 (hy S a hf)
 have hz2:z.length=r.sz:=wQ hz
 have h128' :=rL h128
 have h0' :0<r.sz:=by simpa [wT] using h0
 have hbytes:m*i.bytes<=281474976710656:=by
  have:m*i.bytes<=68719476736*2048:=zP hm (by omega)
  omega
 have hr:=Lib.run_append_nil_zeros (P:=E.P) w t t' ty ak i zv k kn Y ht' hi h3 m (by omega) (by omega) (by omega) hbytes
 have hge:=grownCap_ge w m 0 ak
 have hle:=grownCap_le_maxLen w m 0 ak (by simp only [maxLen];omega)
 generalize grownCap w m 0 ak=cp at hr hge hle
 obtain⟨C,hC⟩: ∃C,Builtin.zeroCells zv.cells m++Builtin.zeroCells zv.cells (cp-m)=C:=⟨_,rfl⟩
 rw [hC]at hr
 obtain⟨he0,hs0⟩:=Pu (w:=w) hs
 obtain⟨he,hs2,hno⟩:=iD (w:=w.drew) (.cells C ak (0,0)) hs0
 have hx2:jh s0 w S (w.drew.alloc (.cells C ak (0,0))) S:=he0.trans he
 have hrun:(execOp a.eval ⟨some d,.call ⟨.builtin .append,#[s,y],#[t,t']⟩,ty,pos,after,g⟩).run E.P w= .ok (.value (.slice (some ⟨w.heap.size,0,none⟩) m cp)) (w.drew.alloc (.cells C ak (0,0))):=by
  simp [execOp,resolve,invoke,builtin,hsv,hyv,hr]
 refine⟨fun c h=>(by cases h),?_⟩
 rw [hrun]
 have hfl:=flat_len hz2 m
 have hC1:C.toList=(List.replicate m z).flatten++(List.replicate (cp-m) z).flatten:=by
  rw [<-hC,Array.toList_append,h4,qD,qD]
 refine⟨_,S,oi (some w.heap.size) cp,rfl,hx2.more fun _ M=>M.elim,hs2,sZ ho hx2 (e:=ff r ak (some w.heap.size) cp (List.replicate m x)) ⟨(List.replicate m z).flatten,⟨C,Af w.drew _,by simpa using hge,hle,?_,?_⟩,yf V S m,fun b M=>by rw [<-sI M];exact hno⟩ (fun b M=>Di (sI M)) M,?_⟩
 ·have:C.toList.length=cp*r.sz:=by
   rw [hC1,ju,hfl,flat_len hz2,<-wO];congr 1;omega
  simpa using this
 ·rw [hC1,FD,<-hfl,List.take_left]
 ·show _=bw _ _ _
  rw [FD];rfl

def KQ{x:α}{y:Operand}(ti:TI E.P ak sz bytes agg z)(hsz:r.sz=sz)(hz:Nat.beq z.length sz=true)(Y:E.P.underlying t=some (.slice ak))(V: ∀S,r.rc S z x)(hone:z.all (·.oneCell')=true)(hs:eS xs lo (xs.length:Int)=some ys)(hy:bk E.N G y (tV (qU sz l cap lo.toNat ys.length)))(hzs:xs.take lo.toNat++List.replicate ys.length x=zs)(k:RG E ops aJ rest (ff r ak l cap zs::aK) G):
  RG E ops aJ (⟨none,.call ⟨.builtin .clear,#[y],#[t]⟩,ty,pos,after,none⟩::rest) (ff r ak l cap xs::aK) G:= .of rfl fun a w S st=>by
 subst hsz
 subst hzs
 obtain⟨i,zv,hi,I,K,h3,h4⟩:=ti.get
 have hyv:a.eval y=qU r.sz l cap lo.toNat ys.length:=hy S a st.facts
 have hz2:z.length=r.sz:=wQ hz
 obtain⟨lo',m,rfl,hm,h5,h6,rfl⟩:=jv hs
 have hm' :m=xs.length:=by omega
 subst hm'
 rw [Dg]at hyv k
 rw [BH]at hyv k
 by_cases hnil:xs.drop lo' =[]
 ·have hlo:xs.length<=lo' :=Jc.1 hnil
  rw [hnil]at hyv k
  have e1:xs.take lo' ++List.replicate ([]:List α).length x=xs:=by simp [u0 hlo]
  rw [e1]at k
  have hrun:(execOp a.eval ⟨none,.call ⟨.builtin .clear,#[y],#[t]⟩,ty,pos,after,none⟩).run E.P w= .ok (.value (.tuple #[])) w:=by
   cases l<;>simp [execOp,resolve,invoke,builtin,Builtin.clear_,nc Y,hyv,qU]
  refine⟨fun c h=>(by cases h),?_⟩
  rw [hrun]
  exact k _ _ S st
 ·obtain⟨⟨cells,hraw,hrc,hno⟩,hbase⟩:=st.own.1
  have hlt:lo' <xs.length:=by
   rcases uy lo' xs.length with h|h
   ·exact h
   ·exact absurd (Ae h) hnil
  cases l with
  |none=>have:=hraw.1;omega
  |some b=>
   obtain⟨cur,g1,g2,g3,g4,g5⟩:=hraw
   have hno' :S b=none:=hno b rfl
   have hne: ¬(cap=lo'):=by omega
   have hld:(xs.drop lo').length=xs.length-lo' :=by simp
   have hfl:=flat_len hz2 (xs.length-lo')
   have hones: ∀u∈(List.replicate (xs.length-lo') z).flatten,u.oneCell' =true:=by
    intro u hu
    obtain⟨q,hq,hu⟩:=List.mem_flatten.1 hu
    rw [(List.mem_replicate.1 hq).2]at hu
    exact p7.1 hone u hu
   have hmul:xs.length*r.sz<=cur.size:=by rw [g4];exact BJ _ g2
   have hfit:lo' *r.sz+(xs.length-lo')*r.sz=xs.length*r.sz:=by rw [<-wO];congr 1;omega
   have hst:=run_storeCells_at E.P b (lo' *r.sz) ak (List.replicate (xs.length-lo') z).flatten 0 cur w g1 (by omega) hones
   simp only [vg]at hst
   have hrun:(execOp a.eval ⟨none,.call ⟨.builtin .clear,#[y],#[t]⟩,ty,pos,after,none⟩).run E.P w= .ok (.value (.tuple #[])) (w.setRow b (cur.toList.take (lo' *r.sz)++(List.replicate (xs.length-lo') z).flatten++cur.toList.drop (lo' *r.sz+(List.replicate (xs.length-lo') z).flatten.length)).toArray):=by
    have e1: ∃q,xs.length-lo' =q+1:=⟨xs.length-lo' -1,by omega⟩
    obtain⟨q,hq⟩:=e1
    have e2:a.eval y= .slice (some ⟨b,lo' *r.sz,none⟩) (q+1) (cap-lo'):=by rw [hyv,hld,hq];simp [qU,hne]
    rw [hq]at hst ⊢
    simp [execOp,resolve,invoke,builtin,Builtin.clear_,nc Y,e2,zeroValue,typeInfo,hi,h3,h4,qD,hst]
   refine⟨fun c h=>(by cases h),?_⟩
   rw [hrun]
   have hset:=setRow_heap w b cur (cur.toList.take (lo' *r.sz)++(List.replicate (xs.length-lo') z).flatten++cur.toList.drop (lo' *r.sz+(List.replicate (xs.length-lo') z).flatten.length)).toArray ak _ g1
   have hl2:(xs.take lo' ++List.replicate (xs.drop lo').length x).length=xs.length:=by simp;omega
   have hsp:xE r S (cells.take (lo' *r.sz)) (xs.take lo'):=by
    have e:xs=xs.take lo' ++xs.drop lo' :=(xQ _ _).symm
    rw [e]at hrc
    have:=(tR hrc).1
    rwa [show(xs.take lo').length=lo' from by simp;omega]at this
   have hcl:((cur.toList.take (lo' *r.sz)++(List.replicate (xs.length-lo') z).flatten++cur.toList.drop (lo' *r.sz+(List.replicate (xs.length-lo') z).flatten.length)).toArray).toList.take ((xs.take lo' ++List.replicate (xs.drop lo').length x).length*r.sz)=cells.take (lo' *r.sz)++(List.replicate (xs.length-lo') z).flatten:=by
    rw [hl2,<-g5,BF,Df (BJ _ (by omega))]
    have hlen1:(cur.toList.take (lo' *r.sz)++(List.replicate (xs.length-lo') z).flatten).length=xs.length*r.sz:=by
     rw [ju,hfl,B4,GV,Df (by omega)];exact hfit
    rw [<-hlen1,List.take_left]
   obtain⟨q1,q2,q3⟩:=sw (aK:=aK) st.sat (ff r ak (some b) cap xs) (ff r ak (some b) cap (xs.take lo' ++List.replicate (xs.drop lo').length x)) st.own (fun k=>⟨fun h=>(sI h).symm,fun h=>by rw [h];rfl⟩) (fun k=>⟨fun h=>(sI h).symm,fun h=>by rw [h];rfl⟩)
    (w' :=w.setRow b (cur.toList.take (lo' *r.sz)++(List.replicate (xs.length-lo') z).flatten++cur.toList.drop (lo' *r.sz+(List.replicate (xs.length-lo') z).flatten.length)).toArray) ⟨rfl,rfl,rfl,by simp [World.setRow],fa _⟩ (fun k hk=>setRow_other w b k _ hk)
    ⟨cells.take (lo' *r.sz)++(List.replicate (xs.length-lo') z).flatten,⟨_,hset,by rw [hl2];exact g2,g3,by simp only [JL,ju,B4,GR,GV];omega,hcl⟩,by rw [hld];exact zd hsp (yf V S _),fun k hk=>by rw [<-sI hk];exact hno'⟩ hno'
   ·exact k _ _ S ⟨st.ext.step q1 (fun c hc=>hbase c (by rw [hc];rfl)),q2,q3,st.facts⟩
end

def qH{α:Type}(r:Rp α)(n:Nat):Rp (List α) where
 sz:=n*r.sz
 agg:=true
 rc:=fun S cs xs=>xs.length=n/\xE r S cs xs
 mono:=fun h ⟨I,K⟩=>⟨I,wp h K⟩
 len:=fun⟨I,K⟩=>by rw [rD K,I]
 one:=fun⟨_,K⟩=>Gu K
 sc:=fun h=>by cases h
section
section
variable{ty:TypeId}
def fE{i:Int}(Y:E.P.underlying t=some (.array n e))(ti:TI E.P e sz bytes agg z)(hsz:r.sz=sz)(V:bk E.N G x (bF (qH r n) xs))(hi:bk E.N G ix (tD (rI k) i))(hy:di xs i=some y):
  cz E aK G ⟨dst,.indexAddr t x ix,ty,pos,after,g⟩ (bF r y):=
 .of_pure fun a w S _ _ hf=>by
  subst hsz
  obtain⟨b,off,c,ak,fr,I,K,h3,h4⟩:=V S a hf
  have h5:a.eval ix= .int k i:=dL.1 (hi S a hf)
  obtain⟨h0,hy'⟩:=m9 hy
  have hlt:i.toNat<xs.length:=(pP.1 hy').1
  have hc:0<=i/\i<(n:Int):=⟨h0,by omega⟩
  refine⟨.pointer (some ⟨b,off+i.toNat*r.sz,none⟩),?_,b,_,c,ak,fr,rfl,K,?_⟩
  ·simp [execOp,I,h5,Instr.indexAt,asIntOf,nc Y,Instr.sureAddr,hc,ti.sizeOf,lg]
  ·have h6:=DG h4 hy'
   rw [zD,BF,qb]at h6
   have hmul:i.toNat*r.sz+r.sz<=n*r.sz:=by rw [<-Fu];exact BJ _ (by omega)
   have hmin:min r.sz ((qH r n).sz-i.toNat*r.sz)=r.sz:=by
    show min r.sz (n*r.sz-i.toNat*r.sz)=r.sz
    omega
   rwa [hmin]at h6
def Jt{i:Int}(Y:E.P.underlying t=some (.array n e))(ti:TI E.P e sz bytes agg z)(hm:bx (qH r n) ak b xs∈aK)(V:bk E.N G x (tV (ba b 0)))(hi:bk E.N G ix (tD (rI k) i))(hy:di xs i=some y):
  cz E aK G ⟨dst,.indexAddr t x ix,ty,pos,after,g⟩ (tV (ba b (i.toNat*sz))):=
 .of_pure fun a w S _ ho hf=>by
  have I:a.eval x=ba b 0:=V S a hf
  have h5:a.eval ix= .int k i:=dL.1 (hi S a hf)
  obtain⟨⟨_,c,_,h4,_⟩,_⟩:=ho.mem _ hm
  obtain⟨h0,hy'⟩:=m9 hy
  have hlt:i.toNat<xs.length:=(pP.1 hy').1
  have hc:0<=i/\i<(n:Int):=⟨h0,by omega⟩
  refine⟨_,?_,rfl⟩
  simp [execOp,I,h5,ba,Instr.indexAt,asIntOf,nc Y,Instr.sureAddr,hc,ti.sizeOf,lg]
end
end
def Ci{α:Type}{r:Rp α}{c:Value}{x:α}(h: ∀S,r.rc S [c] x)(S:SH): ∀n,xE r S (List.replicate n c) (List.replicate n x)
 |0=>rfl
 |n+1=>⟨[c],_,rfl,h S,Ci h S n⟩
def Es{c:Value}{x:α}(n:Nat)(h: ∀S,r.rc S [c] x): ∀S,(qH r n).rc S (List.replicate n c) (List.replicate n x):=fun S=>⟨FD,Ci h S n⟩
def abK(n:Nat):Option Unit:=if n<=68719476736 then some ()else none
def gt0(n:Int):Option Unit:=if 0<n then some ()else none
def Ib{n:Int}{u:Unit}(h:gt0 n=some u):0<n:=by
 unfold gt0 at h
 split at h
 ·assumption
 ·cases h
def Ja{e:Exit}(mm:Bool)(r:Rp α)(ak:TypeId)(h:AT E aJ e (oq mm r ak none 0 []::aK) G):AT E aJ e aK G:=fun a w S st=>h a w S (st.fresh mm r ak)
def Bv{x:α}(h:eS xs lo (xs.length:Int)=some ys)(hz:xs.take lo.toNat++List.replicate ys.length x=zs):zs.length=xs.length:=by
 obtain⟨l,m,rfl,hm,I,K,rfl⟩:=jv h
 have hm' :m=xs.length:=by omega
 subst hm'
 rw [<-hz]
 simp
 omega

def tC(n:FuncId)(cts:List Ty):Ty where
 p:=fun S v=> ∃cap:List Value,v= .func (.func n) #[] cap.toArray/\Aa S cts cap
 mono:=fun h ⟨cap,e,k⟩=>⟨cap,e,Aa.mono h k⟩
section
section
variable{ty:TypeId}
def Og{fid:FuncId}{caps:List Operand}(hcap:kp E.N G caps cts):cz E aK G ⟨dst,.makeFunc (.func fid) #[] caps.toArray,ty,pos,after,g⟩ (tC fid cts):=
 .of_pure fun a w S _ _ hf=>⟨.func (.func fid) #[] (caps.map a.eval).toArray,by simp [execOp,Instr.makeFunc],_,rfl,hcap.tys hf⟩
end
def E8{n:FuncId}{ty:TypeId}{fo:Operand}{xs:List Operand}(O1 Or:List OE){t:OI->Ty}{O2:OI->List OE}(hO:aK=O1++Or)(hc:aj E.P n=true)(hs:ea E.P n (ts++cts) O1 t O2)(hf:bk E.N G fo (tC n cts))(V:kp E.N G xs ts)(hpost: ∀i,O2 i++Or=post i):
  EffOK E aK G ⟨some d,.call ⟨.value fo,xs.toArray,ats⟩,ty,pos,after,g⟩ post t:=fun a w S hsat ho hF M=>by
 subst hO
 obtain rfl:(fun i=>O2 i++Or)=post:=funext hpost
 obtain⟨cap,e,hcap⟩:=hf S a hF
 have hr:(execOp a.eval ⟨some d,.call ⟨.value fo,xs.toArray,ats⟩,ty,pos,after,g⟩).run E.P w= .ok (.enter n ((xs.map a.eval).toArray++cap.toArray)) w:=by
  simp [execOp,resolve,e,Deferred.ofValue,invoke,fZ hc]
 refine⟨fun c h=>(by cases h),?_⟩
 rw [hr]
 have e2:(xs.map a.eval).toArray++cap.toArray=((xs.map a.eval)++cap).toArray:=by simp
 rw [e2]
 exact(hs w S _ hsat ((V.tys hF).append hcap) (pO ho).1.weak).mono fun en w' ⟨i,v,S',he,hv,I,K,h3,h4⟩=>⟨_,he,v,S',i,rfl,I.more fun b ⟨f,hf,M⟩=>⟨f,JO _ hf,M⟩,K,dN.turn ho M I h3 h4,hv⟩
end

def AO{α:Type}(xs:List α)(lo:Int)(n:Nat)(i:Int):Option α:=if 0<=i/\i<(n:Int)then di xs (lo+i)else none
def t6{i:Int}(h:AO xs lo n i=some y):0<=i/\i<(n:Int)/\di xs (lo+i)=some y:=by
 unfold AO at h
 split at h
 ·rename_i hc;exact⟨hc.1,hc.2,h⟩
 ·cases h
def vN(h:eS xs lo hi=some ys):0<=lo:=by
 obtain⟨l,m,rfl,_,_,_,_⟩:=jv h
 omega
section
def o5(hm:oq mm r ak l cap xs∈aK)(hs:eS xs lo hi=some ys)(h:(l=none->ys.length=0)/\ys.length<=maxLen->RG E ops aJ rest aK G):RG E ops aJ rest aK G:=fun a w S st=>by
 refine h ?_ a w S st
 obtain⟨cells,I,_⟩:=(st.own.mem _ hm).1
 obtain⟨l',m,_,_,_,h8,rfl⟩:=jv hs
 have hlen:((xs.take m).drop l').length<=xs.length:=by simp;omega
 cases l with
 |none=>have:=I.1;exact⟨fun _=>by omega,by omega⟩
 |some b=>obtain⟨cur,_,g2,g3,_⟩:=I;exact⟨fun h=>(by cases h),by omega⟩
section
variable{ty:TypeId}
def Gx{lo:Nat}(Y:E.P.underlying t=some (.slice e))(hv:l=none->n=0)(V:bk E.N G x (tV (qU sz l cap lo n))):
  cz E aK G ⟨dst,.call ⟨.builtin .len,#[x],#[t]⟩,ty,pos,after,g⟩ (tD (rI .i64) (n:Int)):=
 .of_pure fun a w S _ ho hf=>by
  have I:a.eval x=qU sz l cap lo n:=V S a hf
  obtain⟨ad,c,h3⟩: ∃ad c,qU sz l cap lo n= .slice ad n c:=by
   cases l with
   |none=>rw [hv rfl];exact⟨none,0,rfl⟩
   |some b=>exact⟨_,_,rfl⟩
  refine⟨.int .i64 n,?_,dL.2 rfl⟩
  simp [execOp,resolve,invoke,builtin,Builtin.len_,nc Y,I,h3,goInt]
def pG{i:Int}(Y:E.P.underlying t=some (.slice e))(ti:TI E.P e sz bytes agg z)(hsz:r.sz=sz)(hm:oq mm r U l cap xs∈aK)(hl0:0<=lo)(V:bk E.N G x (tV (qU sz l cap lo.toNat n)))(hi' :bk E.N G ix (tD (rI k) i))(hy:AO xs lo n i=some y):
  cz E aK G ⟨dst,.indexAddr t x ix,ty,pos,after,g⟩ (tV (sa l ((lo+i).toNat*sz+0))):=
 .of_pure fun a w S _ ho hf=>by
  subst hsz
  have I:a.eval x=qU r.sz l cap lo.toNat n:=V S a hf
  have h3:a.eval ix= .int k i:=dL.1 (hi' S a hf)
  obtain⟨hi0,hin,hxi⟩:=t6 hy
  obtain⟨_,hx'⟩:=m9 hxi
  obtain⟨b,cur,rfl,_,hle,_⟩:=yg (ho.mem _ hm).1 hx'
  have hlt2:(lo+i).toNat<xs.length:=(pP.1 hx').1
  have hne: ¬(cap=lo.toNat):=by omega
  refine⟨_,?_,rfl⟩
  have hc:0<=i/\i<(n:Int):=⟨hi0,hin⟩
  have e1:(lo+i).toNat=lo.toNat+i.toNat:=by omega
  simp [execOp,I,h3,qU,hne,Instr.indexAt,asIntOf,nc Y,hc,ti.sizeOf,lg,sa,ba,e1,wO]
end
end

section
variable{ty:TypeId}{l:List Oper}
end

def og3 [Inhabited α]{c b:Bool}{x:Option α}{k:α->Option β}{d:Option β}{r:β}(h:c=true->(if b=true then x.bind k else d)=some r): ∃y,((c&&b)=true->x=some y/\k y=some r)/\(c=true->b=false->d=some r):=by
 cases c with
 |false=>exact⟨default,fun e=>(by cases e),fun e=>(by cases e)⟩
 |true=>
  obtain⟨y,I,K⟩:=og (h rfl)
  exact⟨y,fun e=>I e,fun _ e=>K e⟩
def rm{κ β:Type} [DecidableEq κ]:List (κ×β)->κ->Option β
 |[],_=>none
 |p::m,k=>if p.1=k then some p.2 else rm m k
def eO{κ β:Type} [DecidableEq κ]:List (κ×β)->κ->β->List (κ×β)
 |[],k,v=>[(k,v)]
 |p::m,k,v=>if p.1=k then(k,v)::m else p::eO m k v
def KV{κ:Type}(P:Program)(kt:TypeId)(kv:κ->Value):Prop:= ∃d,P.underlying kt=some d/\(∀a,MapKept.IsKey d (kv a))/\ ∀a b,kv a=kv b->a=b
def kvI(k:IntKind)(n:Int):Value:= .int k n
def fH{kt:TypeId}(h:P.underlying kt=some (.int k)):KV P kt (kvI k):=⟨_,h,fun _=>rfl,fun a b e=>by injection e⟩
structure MV(β:Type) where
 p:World->SH->β->Option Nat×Nat->Value->Prop
 here: ∀{w S y o v},p w S y o v-> ∀j,o.1=some j->j<w.heap.size
 kept: ∀{C w w' S S' y o v},p w S y o v->jh C w S w' S' ->(∀j,o.1=some j-> ¬C j)->p w' S' y o v
def ED{β:Type}(ty:β->Ty):MV β where
 p:=fun _ S y o v=>o.1=none/\(ty y).p S v
 here:=fun h j hj=>by rw [h.1]at hj;cases hj
 kept:=fun h k _=>⟨h.1,(ty _).mono k.keep h.2⟩
variable{hx:TypeId}
section
variable{κ:Type} [DecidableEq κ]{hx:MV β}{kv:κ->Value}{d:TypeDesc}{k:κ}
def z7(hx:MV β)(kv:κ->Value)(w:World)(S:SH)(h:Option κ):List MapEntry->List (Option Nat×Nat)->List (κ×β)->Prop
 |[],[],[]=>True
 |e::es,o::os,q::m=>e.key=kv q.1/\(if h=some q.1 then o.1=none else hx.p w S q.2 o e.val)/\(∀o' ∈os,∀j,o.1=some j->o'.1≠some j)/\(∀p∈m,p.1≠q.1)/\z7 hx kv w S h es os m
 |_,_,_=>False
def Kz{h:Option κ}: ∀{es:List MapEntry} {os:List (Option Nat×Nat)} {m:List (κ×β)},z7 hx kv w S h es os m-> ∀o∈os,∀j,o.1=some j->j<w.heap.size
 |[],[],[],_,o,ho,_,_=>by cases ho
 |e::es,o::os,q::m,⟨_,K,_,_,h5⟩,o',ho,j,hj=>by
  rcases gW.1 ho with rfl|ho
  ·split at K
   ·rw [K]at hj;cases hj
   ·exact hx.here K j hj
  ·exact Kz h5 o' ho j hj
def D9{C:Nat->Prop}(k:jh C w S w' S'){h:Option κ}: ∀{es:List MapEntry} {os:List (Option Nat×Nat)} {m:List (κ×β)},z7 hx kv w S h es os m->(∀o∈os,∀j,o.1=some j-> ¬C j)->z7 hx kv w' S' h es os m
 |[],[],[],_,_=>trivial
 |e::es,o::os,q::m,⟨I,K,h3,h4,h5⟩,hC=>⟨I,by
  split
  ·rename_i hh;rw [br hh]at K;exact K
  ·rename_i hh;rw [aS hh]at K;exact hx.kept K k (hC o (mp ..)),h3,h4,D9 k h5 fun o' ho=>hC o' (lT _ ho)⟩
def F2{h:Option κ}: ∀{es:List MapEntry} {os:List (Option Nat×Nat)} {m:List (κ×β)},z7 hx kv w S h es os m->(∀p∈m,h≠some p.1)->z7 hx kv w S none es os m
 |[],[],[],_,_=>trivial
 |e::es,o::os,q::m,⟨I,K,h3,h4,h5⟩,hk=>⟨I,by
  rw [aS (hk q (mp ..))]at K
  rw [aS (by simp)];exact K,h3,h4,F2 h5 fun p hp=>hk p (lT _ hp)⟩
def vv(hd: ∀a,MapKept.IsKey d (kv a))(hi: ∀a b,kv a=kv b->a=b)(a b:κ):Instr.sameNow d (kv a) (kv b)=some (decide (a=b)):=by
 obtain⟨r,I,K⟩:=MapKept.sameNow_of_keys (hd a) (hd b)
 rw [I]
 by_cases h:a=b
 ·subst h;rw [K.2 rfl];simp
 ·rw [yI h]
  cases r with
  |false=>rfl
  |true=>exact absurd (hi _ _ (K.1 rfl)) h
def wD(hd: ∀a,MapKept.IsKey d (kv a))(hi: ∀a b,kv a=kv b->a=b): ∀{es:List MapEntry} {os:List (Option Nat×Nat)} {m:List (κ×β)} (i:Nat),z7 hx kv w S none es os m->
  ∃os',(∀x∈os',x∈os\/x.1=none)/\z7 hx kv w S (some k) es os' m/\
   ((rm m k=none/\Instr.findNow d (kv k) es i=some none)\/ ∃(y:β) (o:Option Nat×Nat) (e:MapEntry) (j:Nat),rm m k=some y/\o∈os/\hx.p w S y o e.val/\Instr.findNow d (kv k) es i=some (some (j,e.val))/\ ∀x∈os',∀q,o.1=some q->x.1≠some q)
 |[],[],[],i,_=>⟨[],fun x V=>(by cases V),trivial,.inl ⟨rfl,rfl⟩⟩
 |e::es,o::os,q::m,i,⟨I,K,h3,h4,h5⟩=>by
  rw [aS (by simp)]at K
  by_cases hk:q.1=k
  ·refine⟨(none,0)::os,fun x V=>?_,⟨I,by rw [br (by rw [hk])],fun _ _ _ hj=>(by cases hj),h4,?_⟩,.inr ⟨q.2,o,e,i,by unfold rm;rw [br hk],mp ..,K,?_,fun x V j hj=>?_⟩⟩
   ·rcases gW.1 V with rfl|V
    ·exact .inr rfl
    ·exact .inl (lT _ V)
   ·have: ∀{es:List MapEntry} {os:List (Option Nat×Nat)} {m:List (κ×β)},z7 hx kv w S none es os m->(∀p∈m,p.1≠k)->z7 hx kv w S (some k) es os m:=by
     intro es
     induction es with
     |nil=>intro os m h _;cases os<;>cases m<;>first|trivial|exact h.elim
     |cons e es ih=>
      intro os m h hm
      cases os with
      |nil=>cases m<;>exact h.elim
      |cons o os=>
       cases m with
       |nil=>exact h.elim
       |cons q m=>
        obtain⟨g1,g2,g3,g4,g5⟩:=h
        rw [aS (by simp)]at g2
        exact⟨g1,by rw [aS (fun e=>hm q (mp ..) (sI e).symm)];exact g2,g3,g4,ih g5 fun p hp=>hm p (lT _ hp)⟩
    exact this h5 (fun p hp=>by rw [<-hk];exact h4 p hp)
   ·unfold Instr.findNow
    rw [I,vv hd hi,hk,zQ rfl]
   ·rcases gW.1 V with rfl|V
    ·exact fun e=>by cases e
    ·exact h3 x V j hj
  ·obtain⟨os',g1,g2,g3⟩:=wD hd hi (i+1) h5
   refine⟨o::os',fun x V=>?_,⟨I,by rw [aS (fun e=>hk (sI e).symm)];exact K,fun o' ho' j hj=>?_,h4,g2⟩,?_⟩
   ·rcases gW.1 V with rfl|V
    ·exact .inl (mp ..)
    ·exact(g1 x V).imp (lT _) id
   ·rcases g1 o' ho' with h|h
    ·exact h3 o' h j hj
    ·rw [h];exact fun e=>by cases e
   ·have hf:Instr.findNow d (kv k) (e::es) i=Instr.findNow d (kv k) es (i+1):=by
     conv=>lhs;unfold Instr.findNow
     rw [I,vv hd hi,yI (fun e=>hk e.symm)]
    have hm:rm (q::m) k=rm m k:=by conv=>lhs;unfold rm;rw [aS hk]
    rw [hf,hm]
    refine g3.imp id fun⟨y,o1,e1,j,f1,f2,f3,f4,f5⟩=>⟨y,o1,e1,j,f1,lT _ f2,f3,f4,fun x V q hq=>?_⟩
    rcases gW.1 V with rfl|V
    ·exact fun e=>h3 o1 f2 q e hq
    ·exact f5 x V q hq
def Oq(x:α)(xs:List α)(j:Nat)(f:α->α):(x::xs).modify (j+1) f=x::xs.modify j f:=by simp [List.modify_succ_cons]
def KA(hd: ∀a,MapKept.IsKey d (kv a))(hi: ∀a b,kv a=kv b->a=b){y:β}{o:Option Nat×Nat}{v:Value}{born:Nat}(hv:hx.p w S y o v): ∀{es:List MapEntry} {os:List (Option Nat×Nat)} {m:List (κ×β)} (i:Nat),z7 hx kv w S (some k) es os m->(∀o' ∈os,∀j,o.1=some j->o'.1≠some j)->
    ∃os',(∀x∈os',x∈os\/x=o)/\
      ((∃(j:Nat) (e:MapEntry),Instr.findNow d (kv k) es i=some (some (i+j,e.val))/\es[j]? =some e/\e.key=kv k/\z7 hx kv w S none (es.modify j fun e=>{e with key:=kv k,val:=v}) os' (eO m k y))\/
        (Instr.findNow d (kv k) es i=some none/\z7 hx kv w S none (es++[⟨kv k,v,born⟩]) os' (eO m k y)))
  |[],[],[],i,_,_=>⟨[o],fun x V=> .inr (EE.1 V),.inr ⟨rfl,⟨rfl,by rw [aS (by simp)];exact hv,fun _ h=>(by cases h),fun _ h=>(by cases h),trivial⟩⟩⟩
  |e::es,o1::os,q::m,i,⟨I,K,h3,h4,h5⟩,ha=>by
    by_cases hk:q.1=k
    · refine⟨o::os,fun x V=>?_,.inl ⟨0,e,?_,rfl,by rw [I,hk],?_⟩⟩
      · rcases gW.1 V with rfl|V
        · exact .inr rfl
        · exact .inl (lT _ V)
      · unfold Instr.findNow
        rw [I,vv hd hi,hk,zQ rfl]
        rfl
      · unfold eO
        rw [br hk,List.modify_zero_cons]
        exact⟨rfl,by rw [aS (by simp)];exact hv,fun o' ho' =>ha o' (lT _ ho'),fun p hp=>by rw [<-hk];exact h4 p hp,
          F2 h5 fun p hp e=>h4 p hp (by rw [hk];exact(sI e).symm)⟩
    · obtain⟨os',g1,g2⟩:=KA hd hi (born:=born) hv (i+1) h5 fun o' ho' =>ha o' (lT _ ho')
      rw [aS (fun e=>hk (sI e).symm)]at K
      have hf:Instr.findNow d (kv k) (e::es) i=Instr.findNow d (kv k) es (i+1):=by
        conv=>lhs;unfold Instr.findNow
        rw [I,vv hd hi,yI (fun e=>hk e.symm)]
      have hm:eO (q::m) k y=q::eO m k y:=by conv=>lhs;unfold eO;rw [aS hk]
      have hap: ∀o' ∈os',∀j,o1.1=some j->o'.1≠some j:=fun o' ho' j hj=>by
        rcases g1 o' ho' with h|rfl
        · exact h3 o' h j hj
        · exact fun e=>ha o1 (mp ..) j e hj
      have hne: ∀p∈eO m k y,p.1≠q.1:=by
        have: ∀m:List (κ×β),(∀p∈m,p.1≠q.1)-> ∀p∈eO m k y,p.1≠q.1:=by
          intro m
          induction m with
          |nil=>intro _ p hp;rw [EE.1 hp];exact fun e=>hk e.symm
          |cons p0 m ih=>
            intro hm p hp
            unfold eO at hp
            split at hp
            · rcases gW.1 hp with rfl|hp
              · exact fun e=>hk e.symm
              · exact hm p (lT _ hp)
            · rcases gW.1 hp with rfl|hp
              · exact hm _ (mp ..)
              · exact ih (fun p hp=>hm p (lT _ hp)) p hp
        exact this m h4
      rw [hf,hm]
      refine⟨o1::os',fun x V=>?_,g2.imp (fun⟨j,e',f1,f2,f3,f4⟩=>⟨j+1,e',by rw [f1];congr 3;omega,by simpa using f2,f3,?_⟩) fun⟨f1,f2⟩=>⟨f1,?_⟩⟩
      · rcases gW.1 V with rfl|V
        · exact .inl (mp ..)
        · exact(g1 x V).imp (lT _) id
      · rw [Oq]
        exact⟨I,by rw [aS (by simp)];exact K,hap,hne,f4⟩
      · exact⟨I,by rw [aS (by simp)];exact K,hap,hne,f2⟩
def Ky{h:Option κ}: ∀{es:List MapEntry} {os:List (Option Nat×Nat)} {m:List (κ×β)},z7 hx kv w S h es os m-> ∀x∈es,∃q∈m,x.key=kv q.1
 |[],[],[],_,x,V=>by cases V
 |e::es,o::os,q::m,⟨I,_,_,_,h5⟩,x,V=>by
  rcases gW.1 V with rfl|V
  ·exact⟨q,mp ..,I⟩
  ·obtain⟨q',g1,g2⟩:=Ky h5 x V
   exact⟨q',lT _ g1,g2⟩
def TW(hd: ∀a,MapKept.IsKey d (kv a)){h:Option κ}{es:List MapEntry}{os:List (Option Nat×Nat)}{m:List (κ×β)}(h4:z7 hx kv w S h es os m)(g1:Instr.findNow d (kv k) es i=some none){x:MapEntry}(V:x∈es):x.key≠kv k:=by
 rcases MapKept.findNow_spec (hd k) es i (fun y hy=>by obtain⟨q,_,e⟩:=Ky h4 y hy;rw [e];exact hd _)with⟨_,K⟩|⟨j,e,K,_⟩
 ·exact K x V
 ·rw [g1]at K;cases K
def tZ(hx:MV β)(kv:κ->Value)(b:Nat)(h:Option κ)(os:List (Option Nat×Nat))(m:List (κ×β)):OE where
 fp:=fun j=>j=b\/ ∃o∈os,o.1=some j
 p:=fun w S=>S b=none/\(∀o∈os,o.1≠some b)/\ ∃es clock,w.heap[b]? =some (.map es clock)/\z7 hx kv w S h es.toList os m/\MapKept.Stamped es clock
 here:=by
  intro w S ⟨_,_,es,clock,h3,h4,_⟩ j hj
  rcases hj with rfl|⟨o,ho,hj⟩
  ·exact(yL.1 h3).1
  ·exact Kz h4 o ho j hj
 kept:=by
  intro C w w' S S' ⟨I,K,es,clock,h3,h4,hst⟩ k hC
  have hlt:=(yL.1 h3).1
  exact⟨by rw [k.old b hlt (hC b (.inl rfl))];exact I,K,es,clock,by rw [k.heap b hlt (hC b (.inl rfl))];exact h3,D9 k h4 (fun o ho j hj=>hC j (.inr ⟨o,ho,hj⟩)),hst⟩
def tY(b:Nat):Value:= .map (some b)
end
section
variable{κ:Type} [DecidableEq κ]{hx:MV β}{kv:κ->Value}{os:List (Option Nat×Nat)}{m:List (κ×β)}{k:κ}{kt et:TypeId}{i v:Operand}{dst:Option Nat}{ty:TypeId}
def Pr(N:Fr)(G:nt)(x:Operand)(u:Value):Prop:= ∀S a,eJ N S a G->a.eval x=u
def p9{N:Fr}{q:IntKind}{n:Int}(h:bk N G x (tD (rI q) n)):Pr N G x (kvI q n):=fun S a hf=>dL.1 (h S a hf)
def ZV(P:Program)(ak:TypeId)(z:Value):Prop:=(P.info? ak).bind (·.zero)=some z
def ZV.run{z:Value}(h:ZV P ak z)(w:World):(zeroValue ak).run P w= .ok z w:=by
 unfold ZV at h
 cases hi:P.info? ak with
 |none=>rw [hi]at h;cases h
 |some i=>
  rw [hi]at h
  have h' :i.zero=some z:=h
  simp [zeroValue,typeInfo,hi,h']
def C2(hx:MV β)(kv:κ->Value)(hd:Nat.blt d E.N.n=true)(k: ∀b,RG E ops aJ rest (tZ hx kv b none [] []::aK) ((d,tV (tY b))::G)):
  RG E ops aJ (⟨some d,.makeMap t none,ty,pos,after,none⟩::rest) aK G:= .of rfl fun a w S st=>by
 obtain⟨he,hs',hno⟩:=iD (w:=w) (.map #[] 0) st.sat
 have hrun:(execOp a.eval ⟨some d,.makeMap t none,ty,pos,after,none⟩).run E.P w= .ok (.value (tY w.heap.size)) (w.alloc (.map #[] 0)):=by
  simp [execOp,Instr.makeMap,tY]
 refine⟨fun c h=>(by cases h),?_⟩
 rw [hrun]
 exact k w.heap.size _ _ S ⟨st.ext.step0 he,hs',sZ st.own he ⟨hno,fun _ h=>(by cases h),#[],0,Af w _,trivial,MapKept.stamped_empty 0⟩ (fun b M=>by
  rcases M with rfl|⟨_,h,_⟩
  ·exact fa _
  ·cases h) st.base_le,st.facts.put hd rfl⟩
def pu{kk:Value}{es:Array MapEntry}{clock:Nat}{q:TypeDesc}{z:Value}{u:Option (Nat×Value)}(hm:P.underlying t=some (.map kt et))(hq:P.underlying kt=some q)(hk:MapKept.IsKey q kk)(M:w.heap[b]? =some (.map es clock))(hz:ZV P et z)(hf:Instr.findNow q kk es.toList 0=some u)(c:Bool):(Instr.lookup t (tY b) kk c).run P w= .ok (if c then .tuple #[(u.map (·.2)).getD z,.bool u.isSome]else(u.map (·.2)).getD z) w:=by
 cases u with
 |none=>simp [Instr.lookup,tY,nc hm,Rf M,Rc hq hk,MapKept.run_findKey hq hf,hz.run,Result.andThen]
 |some r=>simp [Instr.lookup,tY,nc hm,Rf M,Rc hq hk,MapKept.run_findKey hq hf,Result.andThen]
def Qv{γ:β->Ty}{z:β}{zv:Value}(hm:E.P.underlying t=some (.map kt et))(hk:KV E.P kt kv)(hz:ZV E.P et zv)(hzt: ∀S,(γ z).p S zv)(hmem:tZ (ED γ) kv b none os m∈aK)(V:bk E.N G x (tV (tY b)))(hi:Pr E.N G i (kv k)):
  cz E aK G ⟨dst,.lookup t x i false,ty,pos,after,g⟩ (γ ((rm m k).getD z)):= .of_pure fun a w S hs ho hf=>by
 obtain⟨⟨_,_,es,clock,h3,h4,_⟩,_⟩:=dN.mem ho _ hmem
 obtain⟨q,hq,hd,hinj⟩:=hk
 have I:a.eval x=tY b:=V S a hf
 have K:a.eval i=kv k:=hi S a hf
 obtain⟨_,_,_,h5⟩:=wD hd hinj (k:=k) 0 h4
 rcases h5 with⟨g1,g2⟩|⟨y,o,e,j,g1,g2,g3,g4,g5⟩
 ·refine⟨zv,by simp [execOp,I,K,pu hm hq (hd k) h3 hz g2],by rw [g1];exact hzt S⟩
 ·refine⟨e.val,by simp [execOp,I,K,pu hm hq (hd k) h3 hz g4],by rw [g1];exact g3.2⟩
def Oh{γ:β->Ty}{z:β}{zv:Value}(hm:E.P.underlying t=some (.map kt et))(hk:KV E.P kt kv)(hz:ZV E.P et zv)(hzt: ∀S,(γ z).p S zv)(hmem:tZ (ED γ) kv b none os m∈aK)(V:bk E.N G x (tV (tY b)))(hi:Pr E.N G i (kv k)):
  cz E aK G ⟨dst,.lookup t x i true,ty,pos,after,g⟩ (tT [γ ((rm m k).getD z),tD rB (rm m k).isSome]):= .of_pure fun a w S hs ho hf=>by
 obtain⟨⟨_,_,es,clock,h3,h4,_⟩,_⟩:=dN.mem ho _ hmem
 obtain⟨q,hq,hd,hinj⟩:=hk
 have I:a.eval x=tY b:=V S a hf
 have K:a.eval i=kv k:=hi S a hf
 obtain⟨_,_,_,h5⟩:=wD hd hinj (k:=k) 0 h4
 rcases h5 with⟨g1,g2⟩|⟨y,o,e,j,g1,g2,g3,g4,g5⟩
 ·refine⟨.tuple #[zv,.bool false],by simp [execOp,I,K,pu hm hq (hd k) h3 hz g2],[zv,.bool false],rfl,by rw [g1];exact hzt S,ko.2 (by rw [g1];rfl),trivial⟩
 ·refine⟨.tuple #[e.val,.bool true],by simp [execOp,I,K,pu hm hq (hd k) h3 hz g4],[e.val,.bool true],rfl,by rw [g1];exact g3.2,ko.2 (by rw [g1];rfl),trivial⟩
def EN{kk:Value}{es:Array MapEntry}{clock:Nat}{q:TypeDesc}{val:Value}(hm:P.underlying t=some (.map kt et))(hq:P.underlying kt=some q)(hk:MapKept.IsKey q kk)(M:w.heap[b]? =some (.map es clock)):
  (Instr.findNow q kk es.toList 0=some none->(Instr.mapUpdate t (tY b) kk val).run P w= .ok () {w with heap:=w.heap.setIfInBounds b (.map (es.push ⟨kk,val,clock⟩) (clock+1))})/\
  (∀j e,Instr.findNow q kk es.toList 0=some (some (j,e))->(∀e',es.toList[j]? =some e' ->e'.key=kk)->(∃e',es.toList[j]? =some e')->(Instr.mapUpdate t (tY b) kk val).run P w= .ok () {w with heap:=w.heap.setIfInBounds b (.map (es.modify j fun e=>{e with key:=kk,val:=val}) clock)}):=by
 refine⟨fun hf=>?_,fun j e hf hj he=>?_⟩
 ·simp [Instr.mapUpdate,tY,nc hm,Rf M,Rc hq hk,MapKept.run_findKey hq hf,MapKept.run_setObj_map _ M,Result.andThen]
 ·obtain⟨e',he'⟩:=he
  have I:=hj e' he'
  have K:es[j]? =some e' :=by simpa using he'
  simp [Instr.mapUpdate,tY,nc hm,Rf M,Rc hq hk,MapKept.run_findKey hq hf,MapKept.run_setObj_map _ M,Result.andThen,K,I,MapKept.run_keyThatStays hk]
def TN{y:β}{o:Option Nat×Nat}{val:Value}(hs:lF w S)(hm:E.P.underlying t=some (.map kt et))(hk:KV E.P kt kv)(hp:(tZ hx kv b (some k) os m).p w S)(hv:hx.p w S y o val)(hob:o.1≠some b)(hap: ∀o' ∈os,∀j,o.1=some j->o'.1≠some j):
  ∃w' os',(Instr.mapUpdate t (tY b) (kv k) val).run E.P w= .ok () w' /\jh (fun j=>j=b) w S w' S/\lF w' S/\(tZ hx kv b none os' (eO m k y)).p w' S/\(∀j,(tZ hx kv b none os' (eO m k y)).fp j->(tZ hx kv b (some k) os m).fp j\/o.1=some j):=by
 obtain⟨hno,hnb,es,clock,h3,h4,hst⟩:=hp
 obtain⟨q,hq,hdk,hinj⟩:=hk
 obtain⟨os',p1,p2⟩:=KA hdk hinj (born:=clock) hv 0 h4 hap
 have hnb' : ∀o' ∈os',o'.1≠some b:=fun o' ho' =>by
  rcases p1 o' ho' with h|rfl
  ·exact hnb o' h
  ·exact hob
 have hfp: ∀j,(j=b\/ ∃o∈os',o.1=some j)->(j=b\/ ∃o∈os,o.1=some j)\/o.1=some j:=fun j hj=>by
  rcases hj with h|⟨o',ho',e⟩
  ·exact .inl (.inl h)
  ·rcases p1 o' ho' with h|rfl
   ·exact .inl (.inr ⟨o',h,e⟩)
   ·exact .inr e
 have hw: ∀X:Obj,jh (fun j=>j=b) w S {w with heap:=w.heap.setIfInBounds b X} S/\lF {w with heap:=w.heap.setIfInBounds b X} S/\({w with heap:=w.heap.setIfInBounds b X}:World).heap[b]? =some X:=fun X=>
  ⟨⟨rfl,rfl,rfl,fa _,by simp,fun j _ hj=>(MapKept.heap_set (o' :=X) h3).2 j hj,SH.le_refl _,fun _ _ _=>rfl⟩,hs.same fun j o hj=>(MapKept.heap_set (o' :=X) h3).2 j (fun e=>by subst e;rw [hno]at hj;cases hj),(MapKept.heap_set h3).1⟩
 obtain⟨r1,r2⟩:=EN (val:=val) hm hq (hdk k) h3
 rcases p2 with⟨j,e,g1,g2,g3,g4⟩|⟨g1,g2⟩
 ·rw [Ab]at g1
  obtain⟨x1,x2,x3⟩:=hw (.map (es.modify j fun e=>{e with key:=kv k,val:=val}) clock)
  refine⟨_,os',r2 j _ g1 (fun e' he' =>by rw [g2]at he';cases he';exact g3) ⟨_,g2⟩,x1,x2,⟨hno,hnb',_,_,x3,?_,MapKept.stamped_modify hst j _ (fun _ _=>rfl) (fun e' _ he' =>by rw [<-Array.getElem?_toList,g2]at he';cases he';exact g3.symm)⟩,hfp⟩;refine D9 x1 (by rw [Array.toList_modify];exact g4) fun o' ho' j hj e=>?_
  subst e
  exact hnb' o' ho' hj
 ·obtain⟨x1,x2,x3⟩:=hw (.map (es.push ⟨kv k,val,clock⟩) (clock+1))
  refine⟨_,os',r1 g1,x1,x2,⟨hno,hnb',_,_,x3,?_,MapKept.stamped_push hst (fun x V e=>?_)⟩,hfp⟩
  rotate_left
  ·exact TW hdk h4 g1 V e
  refine D9 x1 (by rw [Array.toList_push];exact g2) fun o' ho' j hj e=>?_
  subst e
  exact hnb' o' ho' hj
end

def CH(tmps:Array Value):ResultVar->Sem Value
 | .tmp t=>pure (tmps.getD t undef)
 | .cell a t=>do loadVar t (<-asAddr (tmps.getD a undef))
def S6(P:Program)(N:Fr)(G:nt)(rv:ResultVar)(t:Ty):Prop:= ∀a w S,lF w S->eJ N S a G-> ∃v,(CH a.tmps rv).run P w= .ok v w/\t.p S v
def aN{N:Fr}{k:Nat}{t:Ty}(hk:cL G k=some t):S6 P N G (.tmp k) t:=fun a w S _ hf=>⟨_,rfl,hf.at_ k t hk⟩
def aT{N:Fr}{k:Nat}{x:α}(ti:TI P ak sz bytes agg z)(hsz:r.sz=sz)(hag:r.agg=agg)(hk:cL G k=some (bF r x)):S6 P N G (.cell k ak) (tD r x):=fun a w S hs hf=>by
 obtain⟨b,off,c,U,fr,I,K,h3⟩:=hf.at_ k _ hk
 obtain⟨c',h4,h5⟩:=hs.part K (r.len h3)
 rw [<-h5]at h3
 have hl:=mB ti h4 hsz hag h3
 have h1' :a.tmps[k]?.getD undef=Value.pointer (some ⟨b,off,none⟩):=by simpa [Nb] using I
 exact⟨_,by simp [CH,h1',asAddr,hl],_,rfl,h3⟩
def Uh(P:Program)(N:Fr)(G:nt):List ResultVar->List Ty->Prop
 |[],[]=>True
 |rv::rvs,t::ts=>S6 P N G rv t/\Uh P N G rvs ts
 |_,_=>False
def Uh.run{N:Fr}(hs:lF w S)(hf:eJ N S a G): ∀{rvs:List ResultVar} {ts:List Ty},Uh P N G rvs ts-> ∃vs,(rvs.mapM (CH a.tmps)).run P w= .ok vs w/\Aa S ts vs/\vs.length=rvs.length
 |[],[],_=>⟨[],rfl,trivial,rfl⟩
 |rv::rvs,t::ts,⟨I,K⟩=>by
  obtain⟨v,g1,g2⟩:=I a w S hs hf
  obtain⟨vs,k1,k2,k3⟩:=Uh.run hs hf K
  exact⟨v::vs,by simp [List.mapM_cons,g1,k1,Result.andThen],⟨g2,k2⟩,by simp [k3]⟩
def bq{rvs:List ResultVar}(hr:fn.results=rvs.toArray)(I:Nat.beq rvs.length 1=false)(h:Uh P ⟨N,[]⟩ G rvs ts):
  AT ⟨P,⟨N,[]⟩,B,w0,S0,none⟩ (bodyPost P fn (MI ⟨P,⟨N,[]⟩,B,w0,S0,none⟩ (tT ts))) .ret aK G:=fun a w S st=>by
 obtain⟨vs,k1,k2,k3⟩:=h.run st.sat st.facts
 have hne: ¬vs.length=1:=by rw [k3];intro e;rw [e]at I;cases I
 refine⟨st.facts.defers,.tuple vs.toArray,?_,_,S,rfl,st.ext,st.sat,vs,rfl,k2⟩
 have e1:(fn.results.mapM (CH a.tmps)).run P w= .ok vs.toArray w:=by
  rw [hr,List.mapM_toArray,Sem.run_map,k1]
  rfl
 have e3:results fn a.tmps=((fn.results.mapM (CH a.tmps))>>=fun vs=>pure (if h:vs.size=1 then vs[0]else .tuple vs)):=rfl
 rw [e3,xK,e1]
 simp [Result.andThen,hne]

def UV{v:Value}(h:(tD (f9 r) xs).p S v):(f9 r).rc S [v] xs:=by
 obtain⟨cs,e,K⟩:=h
 obtain⟨a,cap,e2,h3⟩:=K
 subst e2
 rw [e]
 exact⟨a,cap,rfl,h3⟩
section
variable{ty:TypeId}
def tS{r:Rp β}{get:β->Value}{x:β}{p:Operand}(ti:TI E.P U 1 bytes false z)(hget:qZ r off rV get)(hm:bx r ak b x∈aK)(hv:get x=bw l cap n)(hp:bk E.N G p (tV (ba b off))):
  cz E aK G ⟨dst,.load U p,ty,pos,after,g⟩ (tV (bw l cap n)):=(bR (q:=rV) ti rfl rfl hget hm hp).imp fun _ _ h=>by rw [<-hv];exact(yR.1 h).1
def Kk{q:Rp α}{r:Rp β}{get:β->Value}{x:β}{p:Operand}(ti:TI E.P U 1 bytes false z)(hget:qZ r off rV get)(hm:bx r ak b x∈aK)(hm2:gO q hx l cap xs∈aK)(hv:get x=bw l cap xs.length)(hp:bk E.N G p (tV (ba b off))):
  cz E aK G ⟨dst,.load U p,ty,pos,after,g⟩ (tO q l cap xs):=fun a w S hs ho hf=>
 qI (fun _ _ ⟨v,S',I,K,h3,h4⟩=>⟨v,S',I,K,h3,h4,by
  have h5:v=bw l cap xs.length:=h4
  rw [h5]
  exact sO (((ho.ext0 K).mem _ hm2).1)⟩) (tS (g:=g) (ty:=ty) (pos:=pos) (after:=after) (dst:=dst) ti hget hm hv hp a w S hs ho hf)
def rl{o:Nat}{p:Operand}(hf:dl E.P ak i=some (off,sz))(h0:Nat.beq sz 0=false)(hp:bk E.N G p (tV (ba b o)))(he:o+off=n):cz E aK G ⟨dst,.fieldAddr ak p i,ty,pos,after,g⟩ (tV (ba b n)):=by
 subst he
 exact Jw hf h0 hp
def CR{q:Rp α}{r:Rp β}{x:β}{p:Operand}(ti:TI E.P U sz bytes agg z)(hsz:q.sz=sz)(hag:q.agg=agg)(hag2:r.agg=agg)(hsz2:r.sz=sz)(hm:bx r ak b x∈aK)(hc: ∀w S cs,dN E.base E.B w S aK->r.rc S cs x->q.rc S cs y)(hp:bk E.N G p (tV (ba b 0))):
  cz E aK G ⟨dst,.load U p,ty,pos,after,g⟩ (tD q y):= .of_pure fun a w S _ ho hf=>by
 have I:a.eval p=ba b 0:=hp S a hf
 obtain⟨⟨_,cur,h5,h6⟩,_⟩:=ho.mem _ hm
 have h7:=hc w S _ ho h6
 have hl:=q.len h7
 have h8:q.rc S ((cur.toList.drop 0).take q.sz) y:=by rw [xM,u0 (by omega)];exact h7
 exact⟨_,by simp [execOp,I,ba,Instr.loadAt,Instr.sureAddr,mB ti h5 hsz hag h8],_,rfl,h8⟩
def Gv{q:Rp α}(ho:dN base B w S aK)(hm:gO q hx l cap xs∈aK):(f9 q).rc S [bw l cap xs.length] xs:=UV (sO (ho.mem _ hm).1)
end
def th{α β γ:Type}(r:Rp α)(r' :Rp γ)(off:Nat)(q:Rp β)(x:α)(y:β)(x' :γ):Prop:= ∀S cs ds,r.rc S cs x->q.rc S ds y->r'.rc S (cs.take off++ds++cs.drop (off+q.sz)) x'
def oE{x:α}{y:β}(h:lh r off q set):th r r off q x y (set x y):=fun S cs ds I K=>h S cs x ds y I K
variable{r' :Rp γ}
def xX{x:α}{y:γ}(hs:r.sz=r'.sz):th r r' 0 r' x y y:=fun S cs ds I K=>by
 have hl:=r.len I
 rw [List.take_zero,lU,EF (by omega),tA]
 exact K
def Rx{α' :Type}{p:Rp α}{p' :Rp α'}{x:α×β}{y:γ}{u:Rp γ}{x1:α'}(h:th p p' 0 u x.1 y x1)(hu:Nat.ble u.sz p.sz=true):th (dP p q) (dP p' q) 0 u x y (x1,x.2):=fun S cs ds ⟨a,b,e,I,K⟩ hd=>by
 have hl:=p.len I
 have hu' :=rL hu
 have h3:=h S a ds I hd
 subst e
 rw [List.take_zero,lU,Ab,JP (by omega),<-ji]
 rw [List.take_zero,lU,Ab]at h3
 exact⟨_,_,rfl,h3,K⟩
def mU{β' :Type}{p:Rp α}{q' :Rp β'}{x:α×β}{y:γ}{u:Rp γ}{off' :Nat}{x2:β'}(h:th q q' off u x.2 y x2)(ho:off' =p.sz+off):th (dP p q) (dP p q') off' u x y (x.1,x2):=fun S cs ds ⟨a,b,e,I,K⟩ hd=>by
 have hl:=p.len I
 have h3:=h S b ds K hd
 subst e ho
 refine⟨a,_,?_,I,h3⟩
 have e1:p.sz+off-a.length=off:=by omega
 have e2:p.sz+off+u.sz-a.length=off+u.sz:=by omega
 rw [List.take_append,List.drop_append,u0 (by omega),EF (by omega),e1,e2]
 simp
def Gs{α' β' :Type}{p:Rp α}{p' :Rp α'}{f:β->α}{f' :β' ->α'}{x:β}{x' :β'}{y:γ}{u:Rp γ}{z:α'}(h:th p p' off u (f x) y z)(e:f' x' =z):th (rW p f) (rW p' f') off u x y x' :=fun S cs ds I K=>by
 show p'.rc S _ (f' x')
 rw [e]
 exact h S cs ds I K
section
variable{e:Exit}{ty:TypeId}
def zz{x:α}{x' :γ}{y:β}{p v:Operand}(ti:TI E.P U sz bytes agg z)(hsz:q.sz=sz)(hset:th r r' off q x y x')(hoff:Nat.ble (off+q.sz) r.sz=true)(hp:bk E.N G p (tV (ba b off)))(hv:bk E.N G v (tD q y))(k:RG E ops aJ rest (bx r' ak b x' ::aK) G):RG E ops aJ (⟨none,.store U p v,ty,pos,after,none⟩::rest) (bx r ak b x::aK) G:= .of rfl fun a w S st=>by
 have I:a.eval p=ba b off:=hp S a st.facts
 obtain⟨ds,K,h3⟩:=hv S a st.facts
 obtain⟨⟨hno,cur,h5,h6⟩,_⟩:=st.own.1
 have hl:=r.len h6
 have hoff' :=rL hoff
 obtain⟨w',hr,e1,e2,e3,e4,e5,e6⟩:=lv ti hsz h3 h5 (off:=off) (by simp at hl;omega)
 have hrun:(execOp a.eval ⟨none,.store U p v,ty,pos,after,none⟩).run E.P w= .ok .skip w' :=by
  simp [execOp,I,K,Instr.storeAt,ba,Instr.sureAddr,hr]
 refine⟨fun c h=>(by cases h),?_⟩
 rw [hrun]
 obtain⟨g1,g2,g3⟩:=sw (aK:=aK) st.sat (bx r ak b x) (bx r' ak b x') st.own (fun _=>xR) (fun _=>xR) ⟨e1,e2,e3,e4.1,e4.2⟩ e6 ⟨hno,_,e5,by simpa using hset S _ _ h6 h3⟩ hno
 exact k _ _ S ⟨st.ext.step g1 (fun c hc=>st.own.1.2 c hc),g2,g3,st.facts⟩
end

section
variable{b:Frame}{k:List Item}{cs:List Frame}{F:Fence}
def sf:step P (lone (b.atR a (.code (.scope c)::k)) cs w)= .next (lone (b.atR a (.code c:: .inScope c::k)) cs w):=
 step_lone_go (by simp [stepG,stepG.exec,Frame.atR])
def Ji:step P (lone (b.atR a (.inScope c::k)) cs w)= .next (lone (b.atR a k) cs w):=
 step_lone_go (by simp [stepG,stepG.exec,Frame.atR])
def PJ(h:c.wpIn F n P (Exit.noGoto aJ) a w):(Code.scope c).wpIn F n P aJ a w:=by
 intro b k cs hro M hr
 have h0:(lone (b.atR a (.code (.scope c)::k)) cs w).fenced P F:=fenced_calm M hr rfl
 obtain⟨e,a₁,w₁,hq,harr⟩:=h b (.inScope c::k) cs hro M hr
 cases e with
 |normal=>exact⟨.normal,a₁,w₁,hq,.head h0 sf (StepsIn.trans harr (.one (fenced_calm M hr rfl) Ji))⟩
 |exit id=>
  have V:exitTo id (.inScope c::k)=exitTo id k:=by simp [exitTo]
  exact⟨.exit id,a₁,w₁,hq,fun k' hk=> .head h0 sf (harr.1 k' (by rw [V];exact hk)),
   fun hr' hk=>let⟨k₁,I,K⟩:=harr.2 hr' (by rw [V];exact hk);⟨k₁,I,.head h0 sf K⟩⟩
 |goto l=>exact hq.elim
 |ret=>exact⟨_,a₁,w₁,hq,.of_steps (.one h0 sf) harr⟩
 |panic ch=>exact⟨_,a₁,w₁,hq,.of_steps (.one h0 sf) harr⟩
 |outgrown=>exact⟨_,a₁,w₁,hq,.of_steps (.one h0 sf) harr⟩
end
section
def Pw(h:CG E (Exit.noGoto aJ) c aK G):CG E aJ (.scope c) aK G:=fun a w S st=>PJ (h a w S st)
def Px{l:Nat}(h:AT E aJ .normal aK G):CG E aJ (.label l) aK G:=fun a w S st=>wpIn_label (h a w S st)
def BD(h:AT E aJ .ret aK G):AT E (Exit.noGoto aJ) .ret aK G:=h
end

def Mh [Inhabited α](h:i<m):qZ (qH r m) (i*r.sz) r (fun x=>(x[i]?).getD default):=fun S cs x ⟨I,K⟩=>by
 have hi:x[i]? =some ((x[i]?).getD default):=by rw [p5 (by omega)];rfl
 exact DG K hi
def SJ [DecidableEq α] [Inhabited α]{t e:Nat}(Y:P.underlying t=some (.array m e))(ti:TI P e sz bytes agg z)(hsz:r.sz=sz)(hag:r.agg=agg)(he:tz P e r n):tz P t (qH r m) (n+1):=fun S cs ds x y d w V hy=>by
 obtain⟨i,zv,hi,hs,_⟩:=ti.get
 have hcell:P.cellsOf e=r.sz:=by unfold Program.cellsOf;rw [hi];simp [hs,hsz]
 have e1:(qH r m).val cs= .agg cs.toArray:=rfl
 have e2:(qH r m).val ds= .agg ds.toArray:=rfl
 rw [e1,e2,show d+(n+1)=(d+n)+1 from rfl,run_equalIn_array w (d+n) cs.toArray ds.toArray Y hi,List.range_eq_range',hcell]
 have key: ∀k j,j+k=m->(Op.eqItems (d+n) e r.sz cs.toArray ds.toArray (List.range' j k)).run P w= .ok (decide (x.drop j=y.drop j)) w:=by
  intro k
  induction k with
  |zero=>
   intro j hj
   rw [EF (by have:=V.1;omega),EF (by have:=hy.1;omega)]
   rfl
  |succ k ih=>
   intro j hj
   have hjx:j<x.length:=by have:=V.1;omega
   have hjy:j<y.length:=by have:=hy.1;omega
   have I:=vw ti hsz hag (Mh (r:=r) (m:=m) (i:=j) (by omega)) V w
   have K:=vw ti hsz hag (Mh (r:=r) (m:=m) (i:=j) (by omega)) hy w
   have h3:=he S _ _ _ _ d w (Mh (r:=r) (m:=m) (i:=j) (by omega) S cs x V) (Mh (r:=r) (m:=m) (i:=j) (by omega) S ds y hy)
   rw [List.range'_succ]
   unfold Op.eqItems
   simp only [xK,I,K,h3,zS]
   have ex:x.drop j=(x[j]?).getD default::x.drop (j+1):=by rw [p5 hjx];exact uA hjx
   have ey:y.drop j=(y[j]?).getD default::y.drop (j+1):=by rw [p5 hjy];exact uA hjy
   rw [ex,ey]
   by_cases hq:(x[j]?).getD default=(y[j]?).getD default
   ·simp only [hq,Dh,p6,iq,fU]
    rw [ih (j+1) (by omega)]
    congr 1
    simp
   ·simp [hq]
 have:=key m 0 (by omega)
 simpa using this
section
variable{ty:TypeId}
def Km{xs:List Operand}{sz' bytes' :Nat}{agg' :Bool}{z' :List Value}(Y:E.P.underlying t=some (.array m ak))(ti:TI E.P ak sz bytes agg z)(hsz:r.sz=sz)(tj:TI E.P t sz' bytes' agg' z')(hz:z'.length=m*r.sz)(hm:m=ys.length)(V:kp E.N G xs (ys.map (tD r))):cz E aK G ⟨dst,.build t (Cn 0 xs).toArray,ty,pos,after,g⟩ (tD (qH r m) ys):=
 .of_pure fun a w S _ _ hF=>by
  obtain⟨zv,hzr,hzc⟩:=tj.zero w
  obtain⟨cs,hc,hfill⟩:=Ik ys (xs.map a.eval) 0 [] z' (V.tys hF) (by simp) (by rw [hz,hm])
  subst hsz
  have hparts:((Cn 0 xs).toArray.map fun(i,x)=>(i,a.eval x)).toList=F1 0 (xs.map a.eval):=by simpa using E7 a.eval 0 xs
  rw [lU,lU]at hfill
  refine⟨.agg cs.toArray,?_,cs,rfl,hm.symm,hc⟩
  simp only [execOp,Instr.build,xK,hzr,zS,nc Y,ti.sizeOf,hzc,hparts,hfill]
  simp
end

def As(N:Nat):List Nat->List Oper->Bool
 |_,[]=>true
 |seen,o::rest=>match o.dst with
  |some d=>Nat.blt d N&& !(seen.any (Nat.beq d))&&As N (d::seen) rest
  |none=>As N seen rest
def NH(l:List Oper): ∀(seen:List Nat),As N seen l=true->
  (∀o:Oper,o∈l-> ∀d,o.dst=some d->d<N/\d∉seen)/\ ∀(i j:Nat) (o p:Oper) (d:Nat),l[i]? =some o->l[j]? =some p->o.dst=some d->p.dst=some d->i=j:=by
 induction l with
 |nil=>exact fun _ _=>⟨fun _ h=>(by cases h),fun _ _ _ _ _ h=>(by simp at h)⟩
 |cons o l ih=>
  intro seen h
  unfold As at h
  cases hd:o.dst with
  |none=>
   rw [hd]at h
   obtain⟨I,K⟩:=ih seen h
   refine⟨fun q hq d hqd=>?_,fun i j p q d hi hj hp hq=>?_⟩
   ·rcases gW.1 hq with rfl|hq
    ·rw [hd]at hqd;cases hqd
    ·exact I q hq d hqd
   ·cases i with
    |zero=>simp at hi;subst hi;rw [hd]at hp;cases hp
    |succ i=>
     cases j with
     |zero=>simp at hj;subst hj;rw [hd]at hq;cases hq
     |succ j=>rw [K i j p q d (by simpa using hi) (by simpa using hj) hp hq]
  |some d0=>
   rw [hd]at h
   simp only [gN,wT,Ai]at h
   obtain⟨⟨g1,g2⟩,g3⟩:=h
   obtain⟨I,K⟩:=ih (d0::seen) g3
   have hns:d0∉seen:=fun hm=>by
    have:seen.any (Nat.beq d0)=true:=zR.2 ⟨d0,hm,Nat.beq_refl d0⟩
    rw [this]at g2;cases g2
   refine⟨fun q hq d hqd=>?_,fun i j p q d hi hj hp hq=>?_⟩
   ·rcases gW.1 hq with rfl|hq
    ·rw [hd]at hqd;cases hqd;exact⟨g1,hns⟩
    ·obtain⟨k1,k2⟩:=I q hq d hqd
     exact⟨k1,fun hm=>k2 (lT _ hm)⟩
   ·cases i with
    |zero=>
     cases j with
     |zero=>rfl
     |succ j=>
      simp at hi;subst hi
      rw [hd]at hp;cases hp
      exact absurd (mp ..) (I q (BK (by simpa using hj)) d0 hq).2
    |succ i=>
     cases j with
     |zero=>
      simp at hj;subst hj
      rw [hd]at hq;cases hq
      exact absurd (mp ..) (I p (BK (by simpa using hi)) d0 hp).2
     |succ j=>rw [K i j p q d (by simpa using hi) (by simpa using hj) hp hq]
def Js:List Oper->List Ty->nt->nt
 |o::l,t::ts,G=>match o.dst with
  |some d=>(d,t)::Js l ts G
  |none=>Js l ts G
 |_,_,G=>G
def TO(l:List Oper): ∀(ts:List Ty) (k:Nat) (t:Ty),ts.length=l.length->cL (Js l ts G) k=some t->
  (∃(j:Nat) (o:Oper),l[j]? =some o/\o.dst=some k/\ts[j]? =some t)\/(cL G k=some t/\ ∀o:Oper,o∈l->o.dst≠some k):=by
 induction l with
 |nil=>
  intro ts k t hl h
  have:ts=[]:=vZ (by simpa using hl)
  subst this
  exact .inr ⟨h,fun _ h=>(by cases h)⟩
 |cons o l ih=>
  intro ts k t hl h
  cases ts with
  |nil=>simp at hl
  |cons u ts=>
   unfold Js at h
   have hl' :ts.length=l.length:=by simpa using hl
   have lift:((∃(j:Nat) (p:Oper),l[j]? =some p/\p.dst=some k/\ts[j]? =some t)\/(cL G k=some t/\ ∀p:Oper,p∈l->p.dst≠some k))->o.dst≠some k->
     (∃(j:Nat) (p:Oper),(o::l)[j]? =some p/\p.dst=some k/\(u::ts)[j]? =some t)\/(cL G k=some t/\ ∀p:Oper,p∈o::l->p.dst≠some k):=by
    rintro(⟨j,p,I,K,h3⟩|⟨I,K⟩) hne
    ·exact .inl ⟨j+1,p,by simpa using I,K,by simpa using h3⟩
    ·exact .inr ⟨I,fun p hp=>(gW.1 hp).elim (fun e=>by subst e;exact hne) (K p)⟩
   cases hd:o.dst with
   |none=>
    rw [hd]at h
    exact lift (ih ts k t hl' h) (by rw [hd];exact fun e=>by cases e)
   |some d=>
    rw [hd]at h
    simp only at h
    unfold cL at h
    by_cases M:Nat.beq d k=true
    ·rw [M]at h
     have:=wQ M
     subst this
     have e:u=t:=by simpa using h
     subst e
     exact .inl ⟨0,o,rfl,hd,rfl⟩
    ·rw [Gb]at M
     rw [M]at h
     refine lift (ih ts k t hl' h) ?_
     rw [hd]
     intro e
     have:d=k:=sI e
     subst this
     simp at M
abbrev TS:=List Nat×(List OI->Ty)
def TS.at(p:TS)(σ:Nat->OI):Ty:=p.2 (p.1.map σ)
def tc(t:Ty):TS:=([],fun _=>t)
def OmS(Ss:List ((Nat->OI)->List OE))(c:Nat)(σ:Nat->OI):List OE:=match Ss[c]? with|some f=>f σ|none=>[]
structure NS where
 slot:Nat
 ty:(Nat->OI)->Ty
 src:Option Nat
def NS.at(n:NS)(σ:Nat->OI):Nd:=⟨n.slot,n.ty σ,n.src⟩
def ZU(G:nt)(ts:List TS)(n:NS):Prop:=
 match n.src with
 |some j=> ∀σ,(ts[j]?).map (fun p=>p.at σ)=some (n.ty σ)
 |none=> ∀σ,cL G n.slot=some (n.ty σ)
def Ga(G:nt)(ts:List TS):List NS->Prop
 |[]=>True
 |n::l=>ZU G ts n/\Ga G ts l
def Ga.mem{ts:List TS}: ∀{l:List NS},Ga G ts l-> ∀n∈l,ZU G ts n
 |_::_,⟨h,_⟩,_,.head _=>h
 |_::_,⟨_,h⟩,_,.tail _ hm=>Ga.mem h _ hm
def FR(l:List NS)(σ:Nat->OI):nt:=m5 (l.map (·.at σ))
def tsS(ts:List TS)(σ:Nat->OI):List Ty:=ts.map fun p=>p.at σ
def acI(L:List Oper)(es:List Bool)(i:Nat)(p:TS):Bool:=p.1.all fun k=>(es[k]?).getD false&&(Nat.beq k i||xd L L.length i k)
structure DJS(E:En)(G:nt)(l:List Oper)(ts:List TS)(Ss:List ((Nat->OI)->List OE))(es:List Bool)(done:Array Bool)(a:Act)(w:World)(S:SH)(σ:Nat->OI)(c:Nat):Prop where
 ext:jh E.B E.w0 E.S0 w S
 sat:lF w S
 own:dN E.base E.B w S (OmS Ss c σ)
 size:a.tmps.size=E.N.n
 defers:a.defers=E.N.ds
 dsz:done.size=l.length
 down: ∀j o,l[j]? =some o->done.getD j false=true-> ∀e∈o.after,Region.binds .any e=true->done.getD e.on false=true
 old: ∀k t,cL G k=some t->(∀j o,l[j]? =some o->done.getD j false=true->o.dst≠some k)->t.p S (a.tmps.getD k undef)
 new: ∀j o d p,l[j]? =some o->done.getD j false=true->o.dst=some d->ts[j]? =some p->(p.at σ).p S (a.tmps.getD d undef)
 deps: ∀j p,done.getD j false=true->ts[j]? =some p-> ∀k∈p.1,done.getD k false=true
 chain: ∀k,es[k]? =some true->(done.getD k false=true↔aaW es k<c)
section
variable{L:List Oper}{ts:List TS}{Ss:List ((Nat->OI)->List OE)}{es:List Bool}
end
def Eb{ty:TypeId}(hnd: ∀c,op≠ .defer c)(h: ∀a w S,lF w S->dN E.base E.B w S aK->eJ E.N S a G->E.base<=w.heap.size-> ∃w' S' x,(execOp a.eval ⟨none,op,ty,pos,after,g⟩).run E.P w= .ok .skip w' /\jh (CV aK) w S w' S' /\lF w' S' /\dN E.base E.B w' S' (post x)):
  EffOK E aK G ⟨none,op,ty,pos,after,g⟩ post (fun _=>Ap):=fun a w S hs ho hf M=>by
 obtain⟨w',S',x,I,K,h3,h4⟩:=h a w S hs ho hf M
 refine⟨hnd,?_⟩
 rw [I]
 exact⟨undef,S',x,rfl,K,h3,h4,trivial⟩

abbrev HL:=List (Nat×Value)
def FX:HL->Nat->Option Value
 |[],_=>none
 |p::hs,o=>bif Nat.beq p.1 o then some p.2 else FX hs o
def E1: ∀{hs:HL} {o:Nat} {v:Value},FX hs o=some v->(o,v)∈hs
 |[],_,_,h=>by cases h
 |p::hs,o,v,h=>by
  unfold FX at h
  by_cases M:Nat.beq p.1 o=true
  ·rw [M]at h
   have e1:=wQ M
   have e2:p.2=v:=sI h
   subst e1 e2
   exact mp ..
  ·rw [Gb]at M
   rw [M]at h
   exact lT _ (E1 h)
def rH{α:Type}(r:Rp α)(hs:HL):Rp α where
 sz:=r.sz
 agg:=r.agg
 rc:=fun S cs x=>r.rc S cs x/\ ∀p∈hs,cs[p.1]? =some p.2
 mono:=fun h k=>⟨r.mono h k.1,k.2⟩
 len:=fun k=>r.len k.1
 one:=fun k=>r.one k.1
 sc:=r.sc
def XZ{hs:HL}(h:qZ r off q get):qZ (rH r hs) off q get:=fun S cs x k=>h S cs x k.1
def Ud{v:Value}(h:cs[off]? =some v):(cs.drop off).take 1=[v]:=by
 have hlt:=(pP.1 h).1
 rw [uA hlt,(pP.1 h).2]
 rfl
def af8{hs:HL}{v:Value}(h:FX hs off=some v):qZ (rH r hs) off rV (fun _=>v):=fun S cs x k=>by
 have I:=k.2 _ (E1 h)
 exact⟨Ud I,r.one k.1 v (BK I)⟩
def HZ(z:List Value):HL->Prop
 |[]=>True
 |p::hs=>z[p.1]? =some p.2/\HZ z hs
def HZ.all: ∀{hs:HL},HZ z hs-> ∀p∈hs,z[p.1]? =some p.2
 |_::_,⟨h,_⟩,_,.head _=>h
 |_::_,⟨_,h⟩,_,.tail _ hm=>HZ.all h _ hm
def zH{x:α}{hs:HL}(h: ∀S,r.rc S z x)(k:HZ z hs): ∀S,(rH r hs).rc S z x:=fun S=>⟨h S,k.all⟩
def abG(hs:HL)(off sz:Nat):Bool:=hs.all fun p=>Nat.blt p.1 off||Nat.ble (off+sz) p.1
def HOK(hs:HL)(off sz:Nat)(v:Option Value):HL->Prop
 |[]=>True
 |p::l=>((v=some p.2/\p.1=off/\sz=1)\/(FX hs p.1=some p.2/\(Nat.blt p.1 off||Nat.ble (off+sz) p.1)=true))/\HOK hs off sz v l
def HOK.all{hs:HL}{v:Option Value}: ∀{l:HL},HOK hs off sz v l-> ∀p∈l,(v=some p.2/\p.1=off/\sz=1)\/(FX hs p.1=some p.2/\(Nat.blt p.1 off||Nat.ble (off+sz) p.1)=true)
 |_::_,⟨h,_⟩,_,.head _=>h
 |_::_,⟨_,h⟩,_,.tail _ hm=>HOK.all h _ hm
def F4{ds:List Value}{k:Nat}(hl:ds.length=sz)(hoff:off+sz<=cs.length)(h:(Nat.blt k off||Nat.ble (off+sz) k)=true):(cs.take off++ds++cs.drop (off+sz))[k]? =cs[k]? :=by
 simp only [tB,wT,Nat.ble_eq]at h
 have Y:(cs.take off).length=off:=by simp;omega
 rcases h with h|h
 ·rw [Lc (by simp;omega),Lc (by omega),EG h]
 ·rw [xw (by simp;omega),zU]
  congr 1
  simp only [ju,Y,hl];omega
def Wb{ds:List Value}{v:Value}(hd:ds=[v])(hoff:off+1<=cs.length):(cs.take off++ds++cs.drop (off+1))[off]? =some v:=by
 subst hd
 have Y:(cs.take off).length=off:=by simp;omega
 rw [Lc (by simp;omega),xw (by omega),Y,v6]
 rfl
def aaa{hs:HL}(h:lh r off q set)(hk:abG hs off q.sz=true)(hoff:Nat.ble (off+q.sz) r.sz=true):lh (rH r hs) off q set:=fun S cs x ds y I K=>by
 refine⟨h S cs x ds y I.1 K,fun p hp=>?_⟩
 have hl:=r.len I.1
 rw [F4 (q.len K) (by have:=rL hoff;omega) (p7.1 hk p hp)]
 exact I.2 _ hp
section
variable{e:Exit}
section
variable{ty:TypeId}
def o6{t:OI->Ty}(h:EffOK E aK G ⟨none,op,ty,pos,after,none⟩ post t)(k: ∀x,RG E ops aJ rest (post x) G):RG E ops aJ (⟨none,op,ty,pos,after,none⟩::rest) aK G:= .of rfl fun a w S st=>
 qI (fun a' w' ⟨v,S',x,ha,V,hs,ho,hv⟩=>by
  subst ha
  exact k x _ _ S' ⟨st.ext.step V fun b ⟨f,hf,M⟩=>(dN.mem st.own f hf).2 b M,hs,ho,st.facts.mono V.keep⟩) (h a w S st.sat st.own st.facts st.base_le)
def lC{x:α}{x' :γ}{y:β}{p v:Operand}(ti:TI E.P U sz bytes agg z)(hsz:q.sz=sz)(hset:th r r' off q x y x')(hoff:Nat.ble (off+q.sz) r.sz=true)(hp:bk E.N G p (tV (ba b off)))(hv:bk E.N G v (tD q y)):EffOK E (bx r ak b x::aK) G ⟨none,.store U p v,ty,pos,after,g⟩ (fun _=>bx r' ak b x' ::aK) (fun _=>Ap):=Eb (fun _ h=>(by cases h)) fun a w S hs ho hf M=>by
 have I:a.eval p=ba b off:=hp S a hf
 obtain⟨ds,K,h3⟩:=hv S a hf
 obtain⟨⟨hno,cur,h5,h6⟩,_⟩:=ho.1
 have hl:=r.len h6
 have hoff' :=rL hoff
 obtain⟨w',hr,e1,e2,e3,e4,e5,e6⟩:=lv ti hsz h3 h5 (off:=off) (by simp at hl;omega)
 have hrun:(execOp a.eval ⟨none,.store U p v,ty,pos,after,g⟩).run E.P w= .ok .skip w' :=by
  simp [execOp,I,K,Instr.storeAt,ba,Instr.sureAddr,hr]
 obtain⟨g1,g2,g3⟩:=sw (aK:=aK) hs (bx r ak b x) (bx r' ak b x') ho (fun _=>xR) (fun _=>xR) ⟨e1,e2,e3,e4.1,e4.2⟩ e6 ⟨hno,_,e5,by simpa using hset S _ _ h6 h3⟩ hno
 exact⟨w',S,sF,hrun,g1.more fun k hk=>⟨_,mp ..,hk⟩,g2,g3⟩
def zt{hs hs' :HL}{x:α}{y:β}{p v:Operand}(ti:TI E.P U 1 bytes false z)(hsz:q.sz=1)(hag:q.agg=false)(hset:lh r off q set)(hoff:Nat.ble (off+1) r.sz=true)(hk:HOK hs off 1 (some u) hs')(hp:bk E.N G p (tV (ba b off)))(hv:bk E.N G v (tD q y))(hu:bk E.N G v (tV u)):EffOK E (bx (rH r hs) ak b x::aK) G ⟨none,.store U p v,ty,pos,after,g⟩ (fun _=>bx (rH r hs') ak b (set x y)::aK) (fun _=>Ap):=Eb (fun _ h=>(by cases h)) fun a w S hsat ho hf M=>by
 have I:a.eval p=ba b off:=hp S a hf
 obtain⟨ds,K,h3⟩:=hv S a hf
 have hu' :a.eval v=u:=hu S a hf
 obtain⟨⟨hno,cur,h5,h6⟩,_⟩:=ho.1
 have hl:=r.len h6.1
 have hoff' :=rL hoff
 have hdl:=q.len h3
 have hds:ds=[u]:=by
  obtain⟨d,hd⟩:=List.length_eq_one_iff.1 (by rw [hdl,hsz]:ds.length=1)
  subst hd
  have e1:q.val [d]=d:=by simp [Rp.val,hag]
  rw [K,e1]at hu'
  rw [hu']
 obtain⟨w',hr,e1,e2,e3,e4,e5,e6⟩:=lv ti hsz h3 h5 (off:=off) (by simp at hl;omega)
 have hrun:(execOp a.eval ⟨none,.store U p v,ty,pos,after,g⟩).run E.P w= .ok .skip w' :=by
  simp [execOp,I,K,Instr.storeAt,ba,Instr.sureAddr,hr]
 rw [hsz]at e5
 have hnew:(rH r hs').rc S (cur.toList.take off++ds++cur.toList.drop (off+1)) (set x y):=by
  have h7:=hset S _ _ _ _ h6.1 h3
  rw [hsz]at h7
  refine⟨h7,fun p hp=>?_⟩
  rcases hk.all p hp with⟨f1,f2,_⟩|⟨f1,f2⟩
  ·rw [f2]
   exact Wb (by rw [hds,sI f1]) (by omega)
  ·rw [F4 (by rw [hdl,hsz]) (by omega) f2]
   exact h6.2 _ (E1 f1)
 obtain⟨g1,g2,g3⟩:=sw (aK:=aK) hsat (bx (rH r hs) ak b x) (bx (rH r hs') ak b (set x y)) ho (fun _=>xR) (fun _=>xR) ⟨e1,e2,e3,e4.1,e4.2⟩ e6 ⟨hno,_,e5,by simpa using hnew⟩ hno
 exact⟨w',S,sF,hrun,g1.more fun k hk=>⟨_,mp ..,hk⟩,g2,g3⟩
end
section
variable{ty:TypeId}
def Vg{hs:HL}{x:α}{p:Operand}(ti:TI E.P U 1 bytes false z)(hk:FX hs off=some u)(hm:bx (rH r hs) ak b x∈aK)(hp:bk E.N G p (tV (ba b off))):
  cz E aK G ⟨dst,.load U p,ty,pos,after,g⟩ (tV u):=(bR (q:=rV) ti rfl rfl (af8 hk) hm hp).imp fun _ _ h=>(yR.1 h).1
def eD{q:Rp α}{r:Rp β}{hs:HL}{x:β}{p:Operand}(ti:TI E.P U 1 bytes false z)(hk:FX hs off=some (bw l cap xs.length))(hm:bx (rH r hs) ak b x∈aK)(hm2:gO q hx l cap xs∈aK)(hp:bk E.N G p (tV (ba b off))):
  cz E aK G ⟨dst,.load U p,ty,pos,after,g⟩ (tO q l cap xs):=fun a w S hs' ho hf=>
 qI (fun _ _ ⟨v,S',I,K,h3,h4⟩=>⟨v,S',I,K,h3,h4,by
  have h5:v=bw l cap xs.length:=h4
  rw [h5]
  exact sO (((ho.ext0 K).mem _ hm2).1)⟩) (Vg (g:=g) (ty:=ty) (pos:=pos) (after:=after) (dst:=dst) ti hk hm hp a w S hs' ho hf)
def XH{t:Ty}(I: ∀S v,t.p S v->v.oneCell' =true)(V:bk E.N G x t):cz E aK G ⟨dst,.box ak x,ty,pos,after,g⟩ (bF (rT t) ()):=
 Qx (fun S a hf=>tRT.2 ⟨I _ _ (V S a hf),V S a hf⟩)
end
end

def EffOK.perm{t:OI->Ty}(h:EffOK E O' G o post t)(k: ∀{w S},dN E.base E.B w S aK->dN E.base E.B w S O')(m: ∀f∈O',f∈aK):EffOK E aK G o post t:=fun a w S hs ho hf M=>
 qI (fun _ _ ⟨v,S',x,I,K,h3,h4,h5⟩=>⟨v,S',x,I,K.more fun _ ⟨f,hf,hk⟩=>⟨f,m f hf,hk⟩,h3,h4,h5⟩) (h a w S hs (k ho) hf M)
namespace EffOK
section
variable{t:OI->Ty}
def fr1(h:EffOK E (x1::x0::aK) G o post t):EffOK E (x0::x1::aK) G o post t:=h.perm (fun hw=>dN.swap hw) (fun f hf=>by simp only [gW]at hf ⊢;rcases hf with h|h|h<;>simp [h])
def fr2(h:EffOK E (x2::x0::x1::aK) G o post t):EffOK E (x0::x1::x2::aK) G o post t:=h.perm (fun hw=>ui hw) (fun f hf=>by simp only [gW]at hf ⊢;rcases hf with h|h|h|h<;>simp [h])
def fr3(h:EffOK E (x3::x0::x1::x2::aK) G o post t):EffOK E (x0::x1::x2::x3::aK) G o post t:=h.perm (fun hw=>wM hw) (fun f hf=>by simp only [gW]at hf ⊢;rcases hf with h|h|h|h|h<;>simp [h])
def fr4(h:EffOK E (x4::x0::x1::x2::x3::aK) G o post t):EffOK E (x0::x1::x2::x3::x4::aK) G o post t:=h.perm (fun hw=>wL hw) (fun f hf=>by simp only [gW]at hf ⊢;rcases hf with h|h|h|h|h|h<;>simp [h])
def fr6(h:EffOK E (x6::x0::x1::x2::x3::x4::x5::aK) G o post t):EffOK E (x0::x1::x2::x3::x4::x5::x6::aK) G o post t:=h.perm (fun hw=>wK hw) (fun f hf=>by simp only [gW]at hf ⊢;rcases hf with h|h|h|h|h|h|h|h<;>simp [h])
def fr7(h:EffOK E (x7::x0::x1::x2::x3::x4::x5::x6::aK) G o post t):EffOK E (x0::x1::x2::x3::x4::x5::x6::x7::aK) G o post t:=h.perm (fun hw=>wJ hw) (fun f hf=>by simp only [gW]at hf ⊢;rcases hf with h|h|h|h|h|h|h|h|h<;>simp [h])
def post_imp{post' :OI->List OE}(h:EffOK E aK G o post t)(k: ∀{w S x},dN E.base E.B w S (post x)->dN E.base E.B w S (post' x)):EffOK E aK G o post' t:=fun a w S hs ho hf M=>
 qI (fun _ _ ⟨v,S',x,I,K,h3,h4,h5⟩=>⟨v,S',x,I,K,h3,k h4,h5⟩) (h a w S hs ho hf M)
end
end EffOK
section
variable{ty:TypeId}
def QQ{v:α}{i:Int}{p:Operand}(ti:TI E.P U sz bytes agg z)(hsz:r.sz=sz)(hy:di xs i=some y)(hz:xs.set i.toNat v=zs)(hp:bk E.N G p (tV (ba b (i.toNat*r.sz))))(hv:bk E.N G x (tD r v)):EffOK E (bx (qH r n) ak b xs::aK) G ⟨none,.store U p x,ty,pos,after,g⟩ (fun _=>bx (qH r n) ak b zs::aK) (fun _=>Ap):=Eb (fun _ h=>(by cases h)) fun a w S hsat hown hf hbase=>by
 subst hz
 have I:a.eval p=ba b (i.toNat*r.sz):=hp S a hf
 obtain⟨ds,K,h3⟩:=hv S a hf
 obtain⟨⟨hno,cur,h5,h6⟩,_⟩:=hown.1
 obtain⟨h0,hy'⟩:=m9 hy
 have hlt:i.toNat<xs.length:=(pP.1 hy').1
 have hl:=rD h6.2
 simp only [GV]at hl
 have hmul:i.toNat*r.sz+r.sz<=xs.length*r.sz:=by rw [<-Fu];exact BJ _ hlt
 obtain⟨w',hr,e1,e2,e3,e4,e5,e6⟩:=lv ti hsz h3 h5 (off:=i.toNat*r.sz) (by omega)
 have hrun:(execOp a.eval ⟨none,.store U p x,ty,pos,after,g⟩).run E.P w= .ok .skip w' :=by
  simp [execOp,I,K,Instr.storeAt,ba,Instr.sureAddr,hr]
 obtain⟨g1,g2,g3⟩:=sw (aK:=aK) hsat (bx (qH r n) ak b xs) (bx (qH r n) ak b (xs.set i.toNat v)) hown (fun _=>xR) (fun _=>xR) ⟨e1,e2,e3,e4.1,e4.2⟩ e6 ⟨hno,_,e5,by rw [JH];exact h6.1,DF h3 h6.2 hlt⟩ hno
 exact⟨w',S,sF,hrun,g1.more fun c hc=>⟨_,mp ..,hc⟩,g2,g3⟩

section
def sx{x:α}(ti:TI E.P ak sz bytes agg z)(V: ∀S,r.rc S z x):
  EffOK E aK G ⟨some d,.alloc ak,ty,pos,after,g⟩ (fun i=>bx r ak (i.h 0).2 x::aK) (fun i=>tV (ba (i.h 0).2 0)):=fun a w S hs ho hf M=>by
 obtain⟨zv,hzr,hzc⟩:=ti.zero w
 obtain⟨he,hs',hno⟩:=iD (w:=w) (.cells z.toArray ak (0,0)) hs
 have hrun:(execOp a.eval ⟨some d,.alloc ak,ty,pos,after,g⟩).run E.P w= .ok (.value (ba w.heap.size 0)) (w.alloc (.cells z.toArray ak (0,0))):=by
  simp [execOp,Instr.alloc,hzr,newVar,newRow,hzc,ba]
 refine⟨fun c h=>(by cases h),?_⟩
 rw [hrun]
 exact⟨_,S,oi none w.heap.size,rfl,he.more fun _ M=>M.elim,hs',sZ ho he (e:=bx r ak w.heap.size x) ⟨hno,z.toArray,Af w _,by simpa using V S⟩ (fun b M=>Di M.symm) M,rfl⟩
def KD{xs:List Operand}(hc:aj E.P f=true)(hs:fR E.P f ts false r ak ys)(V:kp E.N G xs ts):
  EffOK E aK G ⟨some d,.call ⟨.value (.func f),xs.toArray,ats⟩,ty,pos,after,g⟩ (fun i=>ff r ak (i.h 0).1 (i.h 0).2 ys::aK) (fun i=>tV (bw (i.h 0).1 (i.h 0).2 ys.length)):=T9 (mm:=false) hc hs V (fun _ _ _ _ _=>rfl)
end
section
def pH{o:Nat}{p:Operand}(hf:dl E.P ak i=some (off,sz))(h0:Nat.beq sz 0=false)(hm:oq mm r U l cap xs∈aK)(hy:di xs j=some y)(hp:bk E.N G p (tV (sa l o)))(he:o+off=n):
  cz E aK G ⟨dst,.fieldAddr ak p i,ty,pos,after,g⟩ (tV (sa l n)):=by
 subst he
 exact Jv hf h0 hm hy hp
def ee(V:bk E.N G x (tV (ba b off))):cz E aK G ⟨dst,.nilCheck x,ty,pos,after,g⟩ (tV (ba b off)):= .of_pure fun a w S _ _ hf=>by
 have I:a.eval x=ba b off:=V S a hf
 exact⟨ba b off,by simp [execOp,I,ba],rfl⟩
def LO(V:bk E.N G x (bF r y)):cz E aK G ⟨dst,.nilCheck x,ty,pos,after,g⟩ (bF r y):= .of_pure fun a w S _ _ hf=>by
 have h0:=V S a hf
 obtain⟨b,off,c,U,fr,I,K,h3⟩:=h0
 exact⟨_,by simp [execOp,I],b,off,c,U,fr,rfl,K,h3⟩
def wq{p:Operand}(ti:TI E.P U 1 bytes false z)(hm:bx rV ak b u∈aK)(hp:bk E.N G p (tV (ba b 0))):
  cz E aK G ⟨dst,.load U p,ty,pos,after,g⟩ (tV u):=(bR (q:=rV) (get:=fun x=>x) ti rfl rfl bz hm hp).imp fun _ _ h=>(yR.1 h).1
def lL{t:Ty}{p:Operand}(ti:TI E.P U 1 bytes false z)(hp:bk E.N G p (bF (rT t) ())):cz E aK G ⟨dst,.load U p,ty,pos,after,g⟩ t:=wr ti hp
end
def IU(h:aK=O')(k:RG E ops aJ rest O' G):RG E ops aJ rest aK G:=by subst h;exact k
def WV{e:Exit}(h:aK=O')(k:AT E aJ e O' G):AT E aJ e aK G:=by subst h;exact k
def hW{N:Fr}(h:bk N G x (tV u))(ho:u.oneCell' =true):bk N G x (tD rV u):=fun S a hf=>yR.2 ⟨h S a hf,ho⟩
def hTT{N:Fr}{t:Ty}(I: ∀S v,t.p S v->v.oneCell' =true)(h:bk N G x t):bk N G x (tD (rT t) ()):=fun S a hf=>tRT.2 ⟨I _ _ (h S a hf),h S a hf⟩
end
end Go.Proofs.YtpgjgkdpeagjbaaGreatDoor

