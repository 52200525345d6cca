import Derived.Test.YtaehdhmbgmbgiaaGreatDoorKkV1
import Derived.RangeFuncRecord
import Derived.RangeFuncLeaves
import Derived.Laws.StructEq
import Derived.Lib.ConvBytes
import Derived.Lib.AppendZeros
import Derived.Laws.MakeOwn
import Derived.MapKept
import Derived.Scope
import Derived.ChangeKeysEq
set_option linter.all false
namespace Go.Proofs.YtaehdhmbgmbgiaaGreatDoor
open Go
abbrev It(α:Type):=(σ:Type)->(α->σ->Option (Bool×σ))->σ->Option σ
def v6(Se:SH)(O:List OE):OE where
 fp:=fun k=> ∃f∈O,f.fp k
 p:=fun w S=>SH.le Se S/\dW 0 vz w S O
 here:=fun⟨_,h⟩ _ ⟨f,hf,hk⟩=>f.here (dW.mem h f hf).1 _ hk
 kept:=fun⟨I,M⟩ k hC=>⟨SH.le_trans I k.keep,M.ext k fun f hf b H=>hC b ⟨f,hf,H⟩⟩
variable{B:Nat->Prop}{O:List OE}{S:SH}{base:Nat}{w:World}
def dW.weak: ∀{O:List OE},dW base B w S O->dW 0 vz w S O
 |[],_=>trivial
 |_::_,⟨I,M,h3⟩=>⟨⟨I.1,fun _ _=> .inl (nh _)⟩,M,dW.weak h3⟩
variable{f:FuncId}{k:IntKind}
def ox: ∀{O:List OE},dW 0 vz w S O->(∀f∈O,∀k,f.fp k->base<=k\/B k)->dW base B w S O
 |[],_,_=>trivial
 |_::_,⟨I,M,h3⟩,h=>⟨⟨I.1,h _ (md ..)⟩,M,ox h3 fun f hf=>h f (ma _ hf)⟩
def Bq(l:Nat)(r:Loop)(st:LoopState):OE where
 fp:=fun k=>k=l
 p:=fun w S=>S l=none/\w.heap[l]? =some (.loop {r with state:=st,pending:=none})
 here:=by
  intro w S h k hk;subst hk;exact(Ba.1 h.2).1
 kept:=by
  intro C w w' S S' h k hC;have hlt:=(Ba.1 h.2).1;exact⟨by rw [k.old l hlt (hC l rfl)];exact h.1,by rw [k.heap l hlt (hC l rfl)];exact h.2⟩
def H0(b:Nat):OE where
 fp:=fun k=>k=b
 p:=fun w S=>S b=none/\w.heap[b]? =some (.deferred (some []))
 here:=by
  intro w S h k hk;subst hk;exact(Ba.1 h.2).1
 kept:=by
  intro C w w' S S' h k hC;have hlt:=(Ba.1 h.2).1;exact⟨by rw [k.old b hlt (hC b rfl)];exact h.1,by rw [k.heap b hlt (hC b rfl)];exact h.2⟩
def CP(b:Nat):Deferred:={target:= .collected b,args:= #[]}
def Yld(P:Program){α σ:Type}(args:α->List Ty)(y:α->σ->Option (Bool×σ))(h1:σ->OE->Prop)(yv:Value):Prop:=
 ∃l,yv= .func (.yield l) #[] #[]/\ ∀x s r,y x s=some r-> ∀e,h1 s e-> ∀w S vs,nC w S->e.p w S->B5 S (args x) vs->
  ∃f tmps assign body,(Instr.yield l vs.toArray).run P w= .ok (.round l f tmps assign body) w/\
   RoundIn (fw none) 0 P l f tmps assign body w fun en w' => ∃e' S',en= .returned (.bool r.1)/\h1 r.2 e' /\kh e.fp w S w' S' /\nC w' S' /\e'.p w' S' /\ ∀k,e'.fp k->e.fp k\/w.heap.size<=k
def abK(P:Program){α:Type}(args:α->List Ty)(it:It α)(fid:FuncId)(cap:Array Value)(fp:Nat->Prop)(w:World)(S:SH):Prop:=
 ∀(σ:Type) (y:α->σ->Option (Bool×σ)) (s s' :σ),it σ y s=some s' -> ∀h1 yv,Yld P args y h1 yv-> ∀e,h1 s e->e.p w S->(∀k,e.fp k-> ¬fp k)->
  Calls P fid (#[yv]++cap) w fun en w' => ∃e' S',(∃v,en= .returned v)/\h1 s' e' /\kh (fun k=>e.fp k\/fp k) w S w' S' /\nC w' S' /\e'.p w' S' /\ ∀k,e'.fp k->e.fp k\/w.heap.size<=k
def itr(P:Program){α:Type}(args:α->List Ty)(it:It α)(v:Value)(fp:Nat->Prop):OE where
 fp:=fp
 p:=fun w S=>(∀k,fp k->k<w.heap.size)/\ ∃fid cap,v= .func (.func fid) #[] cap/\ak P fid=true/\
  ∀C w' S',kh C w S w' S' ->(∀k,fp k-> ¬C k)->nC w' S' ->abK P args it fid cap fp w' S'
 here:=fun h k hk=>h.1 k hk
 kept:=by
  rintro C w w' S S' ⟨I,fid,cap,M,h3,h4⟩ k hC;refine⟨fun b H=>Ca (I b H) k.size,fid,cap,M,h3,fun C' w'' S'' k' hC' hs=>?_⟩;exact h4 (fun b=>C b\/C' b) w'' S'' ((k.more fun b H=> .inl H).trans (k'.more fun b H=> .inr H)) (fun b H h=>h.elim (hC b H) (hC' b H)) hs
def FI(P:Program)(fid:FuncId){α:Type}(args:α->List Ty)(it:It α)(O:List OE)(cts:List Ty):Prop:=
 ∀w S cap,nC w S->dW 0 vz w S O->B5 S cts cap->abK P args it fid cap.toArray (fun k=> ∃f∈O,f.fp k) w S
def ahZ(E:En){σ:Type}(h1:σ->OE->Prop)(s:σ)(e0:OE):Ending->World->Prop:=fun en w' => ∃e' S',(∃v,en= .returned v)/\h1 s e' /\kh E.B E.w0 E.S0 w' S' /\nC w' S' /\e'.p w' S' /\ ∀k,e'.fp k->e0.fp k\/E.w0.heap.size<=k
variable{σ:Type}{h1:σ->OE->Prop}{N:Nat}{P:Program}{S' S0:SH}{α:Type}{args:α->List Ty}{b:Nat}{c:Code}{cap:Nat}{cts:List Ty}{e:TypeId}{fn:Func}{it:It α}{n:Nat}{s:σ}{ts:List Ty}{w' w0:World}{y:α}
def FI.of(hf:P.funcs[f]? =some fn)(H:fn.body=some c)(hN:fn.ntmps=N)(hn:Nat.ble (cts.length+1) N=true)(h: ∀(σ:Type) (y:α->σ->Option (Bool×σ)) (s s' :σ),it σ y s=some s' -> ∀h1 yv,Yld P args y h1 yv-> ∀e,h1 s e-> ∀w0 S0 B,(∀k,B k->e.fp k\/ ∃f∈O,f.fp k)->
   CG ⟨P,⟨N,[]⟩,B,w0,S0,none⟩ (bodyPost P fn (ahZ ⟨P,⟨N,[]⟩,B,w0,S0,none⟩ h1 s' e)) c (e::O) (xH 0 (tV yv::cts))):FI P f args it O cts:=by
 subst hN;intro w S cap hs ho hc σ y s s' hit h1 yv hy e he hep hap;have hown:dW w.heap.size (fun k=>e.fp k\/ ∃f∈O,f.fp k) w S (e::O):=
  ⟨⟨hep,fun k hk=> .inr (.inl hk)⟩,fun f hf b H hfb=>hap b H ⟨f,hf,hfb⟩,ox ho fun f hf k hk=> .inr (.inr ⟨f,hf,hk⟩)⟩
 have hfacts:=qI (S:=S) (ts:=tV yv::cts) (vs:=yv::cap) ⟨rfl,hc⟩ fn.ntmps (by simpa using ve hn);have:=ny.1 (Kk (F:=fw none) (n:=0) hf H trivial (h σ y s s' hit h1 yv hy e he w S (fun k=>e.fp k\/ ∃f∈O,f.fp k) (fun _ h=>h) _ w S ⟨kh.refl _ _ _,hs,hown,hfacts⟩));rw [show(#[yv]++cap.toArray:Array Value)=(yv::cap).toArray from by simp];exact this.mono fun en w' ⟨e',S',I,M,h3,h4,h5,h6⟩=>⟨e',S',I,M,h3,h4,h5,h6⟩
variable{E:En}{G:pC}{tD:Exit->Act->World->Prop}{a:Act}{after:Array Edge}{ats:Array TypeId}{d:Nat}{l:Option Nat}{ops:Array Oper}{pos:String}{r:Rp α}{rest:List Oper}{x:Operand}{xs:List α}
section
variable{ty:TypeId}
def ZM{e e' :OE}{O:List OE}(h:dW base B w S (e::O))(k:kh e.fp w S w' S')(hp:e'.p w' S')(hn: ∀b,e'.fp b->e.fp b\/w.heap.size<=b)(H:base<=w.heap.size):dW base B w' S' (e' ::O):=
 ⟨⟨hp,fun b hb' =>(hn b hb').elim (fun M=>h.1.2 b M) (fun M=> .inl (by omega))⟩,fun f hf b hb' hfb=>(hn b hb').elim (fun M=>h.2.1 f hf b M hfb) (fun M=>by
  have:=f.here (dW.mem h.2.2 f hf).1 b hfb;omega),h.2.2.ext k fun f hf b hb' M=>h.2.1 f hf b M hb'⟩
def MI{y:α->σ->Option (Bool×σ)}{yv:Value}{x:α}{r:Bool×σ}{e:OE}{fo:Operand}{xs:List Operand}(hy:Yld E.P args y h1 yv)(he:h1 s e)(hq:y x s=some r)(hf:be E.N G fo (tV yv))(V:lI E.N G xs (args x))(hd:Nat.blt d E.N.n=true)(k: ∀e',h1 r.2 e' ->RG E ops tD rest (e' ::O) ((d,Q rB r.1)::G)):RG E ops tD (⟨some d,.call ⟨.value fo,xs.toArray,ats⟩,ty,pos,after,none⟩::rest) (e::O) G:= .of rfl fun a w S st=>by
 obtain⟨l,rfl,hyl⟩:=hy;have I:a.eval fo= .func (.yield l) #[] #[]:=hf S a st.facts;obtain⟨f,tmps,assign,body,M,h3⟩:=hyl x s r hq e he w S _ st.sat st.own.1.1 (V.tys st.facts);have hr:(execOp a.eval ⟨some d,.call ⟨.value fo,xs.toArray,ats⟩,ty,pos,after,none⟩).run E.P w= .ok (.round l f tmps assign body) w:=by
  simp [execOp,resolve,I,Deferred.ofValue,invoke];simpa using M
 refine⟨fun c h=>(by cases h),?_⟩;rw [hr];refine h3.mono fun en w' ⟨e',S',h4,h5,h6,h7,h8,h9⟩=>⟨_,h4,?_⟩;exact k e' h5 _ _ S' ⟨st.ext.step h6 (fun b H=>st.own.1.2 b H),h7,ZM st.own h6 h8 h9 st.base_le,(st.facts.mono h6.keep).put hd (kY.2 rfl)⟩
end
def OJ:List OE->List OE->Prop
 |[],_=>True
 |f::O,g::O' =>(∀k,f.fp k->g.fp k)/\OJ O O'
 |_::_,[]=>False
variable{g:Option (Nat×Bool)}{β:Type}{q:Rp β}
def OJ.mem: ∀{O O' :List OE},OJ O O' -> ∀k,(∃f∈O,f.fp k)-> ∃f∈O',f.fp k
 |f::O,g::O',⟨I,M⟩,k,⟨q,hq,hk⟩=>by
  rcases iW.1 hq with e|e
  ·subst e;exact⟨g,md ..,I k hk⟩
  ·obtain⟨q',h3,h4⟩:=OJ.mem M k ⟨q,e,hk⟩;exact⟨q',ma _ h3,h4⟩
def Q5{e0 e:OE}{O0:List OE}(hr:fn.results= #[])(he:h1 s e)(hB: ∀k,B k->e0.fp k\/ ∃f∈O0,f.fp k)(hO:OJ O0 O):
  AT ⟨P,⟨N,[]⟩,B,w0,S0,none⟩ (bodyPost P fn (ahZ ⟨P,⟨N,[]⟩,B,w0,S0,none⟩ h1 s e0)) .ret (e::O) G:=fun _ _ S st=>
 ⟨st.facts.defers,_,AA P fn hr _ _,e,S,⟨_,rfl⟩,he,st.ext,st.sat,st.own.1.1,fun k hk=>(st.own.1.2 k hk).elim .inr fun H=>(hB k H).elim .inl fun V=>let⟨f,hf,hfk⟩:=hO.mem k V;absurd hfk (st.own.2.1 f hf k hk)⟩
def TN{e0 e:OE}{O0:List OE}(hr:fn.results= #[])(he:h1 s e)(hB: ∀k,B k->e0.fp k\/ ∃f∈O0,f.fp k)(hO:OJ O0 O):
  AT ⟨P,⟨N,[]⟩,B,w0,S0,none⟩ (bodyPost P fn (ahZ ⟨P,⟨N,[]⟩,B,w0,S0,none⟩ h1 s e0)) .normal (e::O) G:=fun a w S st=>Q5 hr he hB hO a w S st
variable{O1:List OE}{ι:Type}{O2:ι->List OE}
def rn: ∀{O1 O2:List OE},dW base B w S (O1++O2)->dW base B w S O1/\dW base B w S O2/\ ∀e∈O1,∀f∈O2,e.apart f
 |[],_,h=>⟨trivial,h,fun _ h=>(by cases h)⟩
 |e::O1,O2,⟨I,M,h3⟩=>by
  obtain⟨k1,k2,k3⟩:=rn h3;refine⟨⟨I,fun f hf=>M f (Ep _ hf),k1⟩,k2,fun g hg f hf=>?_⟩;rcases iW.1 hg with rfl|hg
  ·exact M f (NV _ hf)
  ·exact k3 g hg f hf
def dW.cons{e:OE}(I:e.holds base B w S)(M: ∀f∈O,e.apart f)(h3:dW base B w S O):dW base B w S (e::O):=⟨I,M,h3⟩
def Fz(P:Program)(f:FuncId)(ts:List Ty){α:Type}(args:α->List Ty)(it:It α):Prop:=
 ∀w S vs,nC w S->B5 S ts vs->Calls P f vs.toArray w fun e w' => ∃v fp S',e= .returned v/\kh vz w S w' S' /\nC w' S' /\(itr P args it v fp).holds w.heap.size vz w' S'
def afv(E:En){α:Type}(args:α->List Ty)(it:It α):Ending->World->Prop:=fun e w' => ∃v fp S',e= .returned v/\kh E.B E.w0 E.S0 w' S' /\nC w' S' /\(itr E.P args it v fp).holds E.w0.heap.size E.B w' S'
def Fz.of(hf:P.funcs[f]? =some fn)(H:fn.body=some c)(hN:fn.ntmps=N)(hn:Nat.ble ts.length N=true)(h: ∀w0 S0,CG ⟨P,⟨N,[]⟩,vz,w0,S0,none⟩ (bodyPost P fn (afv ⟨P,⟨N,[]⟩,vz,w0,S0,none⟩ args it)) c [] (xH 0 ts)):Fz P f ts args it:=by
 subst hN;intro w S vs hs hv;exact ny.1 (Kk (F:=fw none) (n:=0) hf H trivial (h w S _ w S ⟨kh.refl _ _ _,hs,trivial,qI hv _ (ve hn)⟩))
section
def TL{k:Nat}{v:Value}{fp:Nat->Prop}(hr:fn.results= #[.tmp k])(hk:cH G k=some (tV v)):
  AT ⟨P,⟨N,[]⟩,B,w0,S0,none⟩ (bodyPost P fn (afv ⟨P,⟨N,[]⟩,B,w0,S0,none⟩ args it)) .ret (itr P args it v fp::O) G:=fun a w S st=>by
 have hv:a.tmps.getD k undef=v:=st.facts.at_ k _ hk;exact⟨st.facts.defers,_,qU P fn k hr _ _,v,fp,S,by rw [hv],st.ext,st.sat,st.own.1⟩
section
variable{ty:TypeId}
def Pd{xs:List Operand}(hc:ak E.P f=true)(hs:Fz E.P f ts args it)(V:lI E.N G xs ts)(hd:Nat.blt d E.N.n=true)(k: ∀v fp,RG E ops tD rest (itr E.P args it v fp::O) ((d,tV v)::G)):
  RG E ops tD (⟨some d,.call ⟨.value (.func f),xs.toArray,ats⟩,ty,pos,after,none⟩::rest) O G:= .of rfl fun a w S st=>by
 have hr:(execOp a.eval ⟨some d,.call ⟨.value (.func f),xs.toArray,ats⟩,ty,pos,after,none⟩).run E.P w= .ok (.enter f (xs.map a.eval).toArray) w:=by
  simp [execOp,resolve,Act.eval,Deferred.ofValue,invoke,gC hc]
 refine⟨fun c h=>(by cases h),?_⟩;rw [hr];refine(hs w S _ st.sat (V.tys st.facts)).mono fun e w' ⟨v,fp,S',he,I,M,h3⟩=>⟨_,he,?_⟩;exact k v fp _ _ S' ⟨st.ext.step0 I,M,vy st.own I h3.1 (fun b H=>(h3.2 b H).resolve_right id) st.base_le,(st.facts.mono I.keep).put hd rfl⟩
def Jl{fid:FuncId}{O2:List OE}{caps:List Operand}(hO:O=O1++O2)(hc:ak E.P fid=true)(hs:FI E.P fid args it O1 cts)(hcap:lI E.N G caps cts)(hd:Nat.blt d E.N.n=true)(k: ∀v fp,RG E ops tD rest (itr E.P args it v fp::O2) ((d,tV v)::G)):
  RG E ops tD (⟨some d,.makeFunc (.func fid) #[] caps.toArray,ty,pos,after,none⟩::rest) O G:= .of rfl fun a w S st=>by
 subst hO;have hr:(execOp a.eval ⟨some d,.makeFunc (.func fid) #[] caps.toArray,ty,pos,after,none⟩).run E.P w= .ok (.value (.func (.func fid) #[] (caps.map a.eval).toArray)) w:=by simp [execOp,Instr.makeFunc]
 refine⟨fun c h=>(by cases h),?_⟩;rw [hr];obtain⟨I,M,h3⟩:=rn st.own;have hcv:=hcap.tys st.facts;refine k (.func (.func fid) #[] (caps.map a.eval).toArray) (fun k=> ∃f∈O1,f.fp k) _ _ S ⟨st.ext,st.sat,?_,st.facts.put hd rfl⟩;refine dW.cons ⟨⟨fun b ⟨f,hf,H⟩=>f.here (dW.mem I f hf).1 b H,fid,_,rfl,hc,fun C w' S' he hC hs' =>?_⟩,fun b ⟨f,hf,H⟩=>(dW.mem I f hf).2 b H⟩ (fun f hf b ⟨g,hg,H⟩=>h3 g hg f hf b H) M;exact hs w' S' _ hs' (I.weak.ext he fun f hf b H=>hC b ⟨f,hf,H⟩) (hcv.mono he.keep)
end
end
def On:List Nat->List Ty->pC->pC
 |d::ds,t::ts,G=>On ds ts ((d,t)::G)
 |_,_,G=>G
variable{t:TypeId}
def Fs{N:Fr}{S:SH}: ∀(ds:List Nat) (ts:List Ty) (vs:List Value) (a:Act) (G:pC),ds.length=ts.length->B5 S ts vs->(ds.all fun d=>Nat.blt d N.n)=true->du N S a G->
  du N S {tmps:=(ds.zip vs).foldl (fun t (p:Nat×Value)=>t.setIfInBounds p.1 p.2) a.tmps,defers:=a.defers} (On ds ts G)
 |[],_,_,_,_,hl,_,_,hF=>by
  cases Ao hl.symm;simpa [On] using hF
 |d::ds,[],_,_,_,hl,_,_,_=>by simp at hl
 |d::ds,t::ts,[],_,_,_,hv,_,_=>hv.elim
 |d::ds,t::ts,v::vs,a,G,hl,⟨I,M⟩,hd,hF=>by
  simp only [xr,iX]at hd;have:=Fs ds ts vs (a.put (some d) v) ((d,t)::G) (by simpa using hl) M hd.2 (hF.put hd.1 I);simpa [On,Act.put] using this
def agC(E:En)(l:Nat)(rec:Loop){σ ι:Type}(Oi:ι->List OE)(dat:ι->σ)(s2:σ):Ending->World->Prop:=fun en w' =>
 ∃i S',en= .returned (.bool true)/\dat i=s2/\kh E.B E.w0 E.S0 w' S' /\nC w' S' /\dW E.base E.B w' S' (Bq l rec .ready::Oi i)
def aeM(E:En)(l:Nat)(body:Code)(R:Ending->World->Prop):Exit->Act->World->Prop:=
 Exit.then (fun a₁ w₁=> ∃w₂,(Instr.beginRound l).run E.P w₁= .ok () w₂/\body.wpIn (fw E.r) 0 E.P (roundPost E.P l R) a₁ w₂) (fun _ _ _=>False)
variable{hi i j:Int}{rec:Loop}{x1 x2 x3:OE}
section
def PP{l:Nat}{st st' :LoopState}{O:List OE}(h:dW base B w S (Bq l rec st::O))(hs:nC w S):
  kh (fun k=>k=l) w S (w.putObj l (.loop {rec with state:=st',pending:=none})) S/\nC (w.putObj l (.loop {rec with state:=st',pending:=none})) S/\dW base B (w.putObj l (.loop {rec with state:=st',pending:=none})) S (Bq l rec st' ::O):=by
 obtain⟨hno,hl⟩:=h.1.1;have hlt:=(Ba.1 hl).1;have hext:kh (fun k=>k=l) w S (w.putObj l (.loop {rec with state:=st',pending:=none})) S:=⟨rfl,rfl,rfl,kG _,by simp,fun k _ hk=>World.putObj_heap_other hk,SH.le_refl _,fun _ _ _=>rfl⟩;refine⟨hext,hs.same fun k o hk=>?_,⟨⟨hno,World.putObj_heap_same hlt⟩,h.1.2⟩,h.2.1,h.2.2.ext hext fun g hg k hk hkl=>h.2.1 g hg k hkl hk⟩;have hne:k≠l:=fun e=>by subst e;rw [hno]at hk;cases hk
 exact World.putObj_heap_other hne
def abR{l:Nat}{body:Code}{R:Ending->World->Prop}(h:CG E (roundPost E.P l R) body (Bq l rec .busy::O) G):AT E (aeM E l body R) .normal (Bq l rec .ready::O) G:=fun a w S st=>by
 obtain⟨I,M,h3⟩:=PP (st' := .busy) st.own st.sat;obtain⟨_,hl⟩:=st.own.1.1;exact⟨_,run_beginRound hl rfl,h a _ S ⟨st.ext.step I (fun c hc=>st.own.1.2 c hc),M,h3,st.facts⟩⟩
def TO{l:Nat}{Oi:ι->List OE}{dat:ι->σ}{s2:σ}(i:ι)(hi:dat i=s2)(hO:O=Oi i):AT E (roundPost E.P l (agC E l rec Oi dat s2)) .normal (Bq l rec .busy::O) G:=fun a w S st=>by
 subst hO;obtain⟨I,M,h3⟩:=PP (st' := .ready) st.own st.sat;obtain⟨_,hl⟩:=st.own.1.1;exact⟨_,_,run_endRound none hl,i,S,rfl,hi,st.ext.step I (fun c hc=>st.own.1.2 c hc),M,h3⟩
def B3{ps:Array Nat}{vs:List Value}{tmps:Array Value}:(ps.zip vs.toArray).foldl (fun t (p,v)=>t.setIfInBounds p v) tmps=(ps.toList.zip vs).foldl (fun t (p:Nat×Value)=>t.setIfInBounds p.1 p.2) tmps:=by
 rw [<-Array.foldl_toList];simp
def Ji{α σ:Type}(f:α->σ->Option σ):α->σ->Option (Bool×σ):=fun x s=>(f x s).map fun s' =>(true,s')
def Y3{v:Value}{fp:Nat->Prop}(Oi:ι->List OE)(dat:ι->σ){f:α->σ->Option σ}{s' :σ}{g:Operand}{ps:List Nat}{assign body:Code}(hr:E.r=none)(hg:be E.N G g (tV v))(i0:ι)(hO:O=itr E.P args it v fp::Oi i0)(hit:it σ (Ji f) (dat i0)=some s')(hps: ∀x,ps.length=(args x).length)(hpn:(ps.all fun d=>Nat.blt d E.N.n)=true)(hbody: ∀(i:ι) (x:α) (s2:σ),f x (dat i)=some s2-> ∀(l:Nat) (rec:Loop) (w1:World) (S1:SH) (B1:Nat->Prop),
   CG ⟨E.P,⟨E.N.n,[]⟩,B1,w1,S1,some l⟩ (aeM ⟨E.P,⟨E.N.n,[]⟩,B1,w1,S1,some l⟩ l body (agC ⟨E.P,⟨E.N.n,[]⟩,B1,w1,S1,some l⟩ l rec Oi dat s2)) assign (Bq l rec .ready::Oi i) (On ps (args x) G))(k: ∀i',dat i' =s' -> ∀b,AT ⟨E.P,⟨E.N.n,CP b::E.N.ds⟩,E.B,E.w0,E.S0,E.r⟩ tD .normal (H0 b::Oi i') G):CG E tD (.rangeFunc g ps.toArray assign body) O G:=fun a w S st=>by
 subst hO;refine wpIn_rangeFunc fun fn _=>?_;have hr0:(fw E.r).round=none:=hr;have hfw:fw E.r=fw none:=by rw [hr]
 rw [hr0];obtain⟨rec,hrec⟩: ∃rec:Loop,rec={state:= .ready,pending:=none,fn,tmps:=a.tmps,params:=ps.toArray,assign,body,defers:=w.heap.size}:=⟨_,rfl⟩;obtain⟨x1,x2,x3⟩:=jy (w:=w) (.deferred (some [])) st.sat;obtain⟨y1,y2,y3⟩:=jy (w:=w.alloc (.deferred (some []))) (.loop rec) x2;obtain⟨W1,hW1⟩: ∃W1,(w.alloc (.deferred (some []))).alloc (.loop rec)=W1:=⟨_,rfl⟩;rw [hW1]at y1 y2;have hsz:(w.alloc (.deferred (some []))).heap.size=w.heap.size+1:=by simp
 rw [hsz]at y3;have hext:kh vz w S W1 S:=x1.trans y1;have hL1:W1.heap[w.heap.size+1]? =some (.loop rec):=by
  rw [<-hW1];have:=World.alloc_heap_new (w.alloc (.deferred (some []))) (.loop rec);rwa [hsz]at this
 have hK1:W1.heap[w.heap.size]? =some (.deferred (some [])):=by
  rw [y1.heap w.heap.size (by omega) (fun h=>h)];exact World.alloc_heap_new w _
 have hW1s:W1.heap.size=w.heap.size+2:=by rw [<-hW1];simp
 have hg' :a.eval g=v:=hg S a st.facts;obtain⟨hit1,hap,hoi⟩:=st.own;obtain⟨⟨hfp,gf,cap,hv,hcal,hcall⟩,hbase⟩:=hit1;have hbl:=st.base_le;have hoi1:dW E.base E.B W1 S (Oi i0):=hoi.ext0 hext;have hlt: ∀f∈Oi i0,∀k,f.fp k->k<w.heap.size:=fun f hf k hk=>f.here (dW.mem hoi f hf).1 k hk;refine⟨w.heap.size+1,[CP w.heap.size],W1,{target:= .fn (.func gf) cap,args:= #[.func (.yield (w.heap.size+1)) #[] #[]]},W1,gf,
  #[.func (.yield (w.heap.size+1)) #[] #[]]++cap,W1,?_,?_,fun _ _=>trivial,?_,fun h=>(by cases h),?_⟩
 ·rw [<-hW1,hrec];exact run_enterLoop_outer _ _ _ _ _
 ·simp only [resolve,hg',hv];simp [go_sem]
 ·simp [invoke,go_sem,gC hcal]
 rw [hfw];refine ny.2 ?_;have hyld:Yld E.P args (Ji f) (fun s e=> ∃i,dat i=s/\e=v6 S (Bq (w.heap.size+1) rec .ready::Oi i)) (.func (.yield (w.heap.size+1)) #[] #[]):=by
  refine⟨_,rfl,?_⟩;rintro x s r hy e ⟨i,rfl,rfl⟩ w2 S2 vs hs2 ⟨hle,hown⟩ hvs;obtain⟨s2,hs2',rfl⟩: ∃s2,f x (dat i)=some s2/\r=(true,s2):=by
   unfold Ji at hy
   cases hf:f x (dat i)with
   |none=>rw [hf]at hy;cases hy
   |some s2=>rw [hf]at hy;exact⟨s2,rfl,by simpa using hy.symm⟩
  have hl2:=hown.1.1.2;have hvl:=hvs.length;have hyr:=run_yield (P:=E.P) (args:=vs.toArray) hl2 (by rw [hrec];simp [hps x,hvl]);refine⟨_,_,_,_,hyr,roundIn_of_wpIn trivial ?_⟩;have:=hbody i x s2 hs2' (w.heap.size+1) rec w2 S2 (fun k=> ∃f∈Bq (w.heap.size+1) rec .ready::Oi i,f.fp k)
   {tmps:=(ps.zip vs).foldl (fun t (p:Nat×Value)=>t.setIfInBounds p.1 p.2) a.tmps,defers:=[]} w2 S2
   ⟨kh.refl _ _ _,hs2,ox hown fun f hf k hk=> .inr ⟨f,hf,hk⟩,Fs ps (args x) vs ⟨a.tmps,[]⟩ G (hps x) hvs hpn ⟨st.facts.size,rfl,fun j t h=>t.mono hle (st.facts.at_ j t h)⟩⟩
  rw [hrec];rw [hrec]at this;rw [B3];refine wpIn_mono this ?_;intro e a3 w3 hp
  cases e with
  |normal=>
   obtain⟨w4,hb4,hp4⟩:=hp;refine⟨w4,hb4,wpIn_mono hp4 ?_⟩;have hR: ∀en w',agC ⟨E.P,⟨E.N.n,[]⟩,fun k=> ∃f∈Bq (w.heap.size+1) rec .ready::Oi i,f.fp k,w2,S2,some (w.heap.size+1)⟩ (w.heap.size+1) rec Oi dat s2 en w' ->
     ∃e' S',en= .returned (.bool true)/\(∃i',dat i' =s2/\e' =v6 S (Bq (w.heap.size+1) rec .ready::Oi i'))/\kh (v6 S (Bq (w.heap.size+1) rec .ready::Oi i)).fp w2 S2 w' S' /\nC w' S' /\e'.p w' S' /\ ∀k,e'.fp k->(v6 S (Bq (w.heap.size+1) rec .ready::Oi i)).fp k\/w2.heap.size<=k:=by
    rintro en w' ⟨i',S',I,M,h3,h4,h5⟩;exact⟨_,S',I,⟨i',M,rfl⟩,h3,h4,⟨SH.le_trans hle h3.keep,h5.weak⟩,fun k ⟨f,hf,hk⟩=>((dW.mem h5 f hf).2 k hk).symm⟩
   rw [hrec]at hR;intro e5 a5 w5 hp5;cases e5<;>simp only [roundPost]at hp5 ⊢
   case normal=>obtain⟨v5,w6,I,M⟩:=hp5;exact⟨v5,w6,I,hR _ _ M⟩
   case ret=>obtain⟨v5,w6,I,M⟩:=hp5;exact⟨v5,w6,I,hR _ _ M⟩
   case exit=>obtain⟨v5,w6,I,M⟩:=hp5;exact⟨v5,w6,I,hR _ _ M⟩
   case goto=>obtain⟨v5,w6,I,M⟩:=hp5;exact⟨v5,w6,I,hR _ _ M⟩
  |_=>exact hp
 have hrecE:W1.heap[w.heap.size+1]? =some (.loop {rec with state:= .ready,pending:=none}):=by rw [hL1,hrec]
 have he0:(v6 S (Bq (w.heap.size+1) rec .ready::Oi i0)).p W1 S:=⟨SH.le_refl _,⟨⟨y3,hrecE⟩,fun _ _=> .inl (nh _)⟩,fun f hf k hk hfk=>by have:=hlt f hf k hfk;have hk' :k=w.heap.size+1:=hk;omega,hoi1.weak⟩;have hap0: ∀k,(v6 S (Bq (w.heap.size+1) rec .ready::Oi i0)).fp k-> ¬fp k:=by
  rintro k ⟨f,hf,hk⟩ hfk;rcases iW.1 hf with rfl|hf
  ·have:=hfp k hfk;have hk' :k=w.heap.size+1:=hk;omega
  ·exact hap f hf k hfk hk
 refine(hcall vz W1 S hext (fun _ _ h=>h) y2 σ (Ji f) (dat i0) s' hit _ _ hyld _ ⟨i0,rfl,rfl⟩ he0 hap0).mono ?_;rintro en w2 ⟨e',S2,⟨vr,rfl⟩,⟨i',hi',rfl⟩,B_,hs2,⟨hle2,hown2⟩,hnew⟩;have hl2:=hown2.1.1.2;refine⟨none,_,run_endLoop hl2 (by simp),?_⟩;have hb2:dW E.base E.B w2 S2 (Bq (w.heap.size+1) rec .ready::Oi i'):=by
  refine ox hown2 fun f hf k hk=>?_;rcases hnew k ⟨f,hf,hk⟩with⟨f0,hf0,hk0⟩|h
  ·rcases iW.1 hf0 with rfl|hf0
   ·left;have hk' :k=w.heap.size+1:=hk0;omega
   ·exact(dW.mem hoi f0 hf0).2 k hk0
  ·left;omega
 obtain⟨z1,z2,z3⟩:=PP (st' := .exhausted) hb2 hs2;have hdf:(H0 w.heap.size).p W1 S:=⟨x3,hK1⟩;have hnb: ∀k,(H0 w.heap.size).fp k-> ¬((v6 S (Bq (w.heap.size+1) rec .ready::Oi i0)).fp k\/fp k):=by
  rintro k hk h;have hk' :k=w.heap.size:=hk;subst hk';rcases h with⟨f,hf,hfk⟩|h
  ·rcases iW.1 hf with rfl|hf
   ·have hk' :w.heap.size=w.heap.size+1:=hfk;omega
   ·have:=hlt f hf _ hfk;omega
  ·have:=hfp _ h;omega
 have hd2:(H0 w.heap.size).p w2 S2:=(H0 w.heap.size).kept hdf B_ hnb;have hd3:=(H0 w.heap.size).kept hd2 z1 (fun k hk hkl=>by have I:k=w.heap.size:=hk;have M:k=w.heap.size+1:=hkl;omega);have hBin: ∀k,((v6 S (Bq (w.heap.size+1) rec .ready::Oi i0)).fp k\/fp k)->E.w0.heap.size<=k\/E.B k:=by
  rintro k (⟨f,hf,hk⟩|h)
  ·rcases iW.1 hf with rfl|hf
   ·left;have hk' :k=w.heap.size+1:=hk;have:E.w0.heap.size<=w.heap.size:=hbl;omega
   ·exact(dW.mem hoi f hf).2 k hk
  ·exact hbase k h
 refine k i' hi' w.heap.size _ _ S2 ⟨((st.ext.step0 hext).step B_ hBin).step z1 (fun c hc=>z3.1.2 c hc),z2,?_,?_⟩
 ·refine dW.cons ⟨hd3,fun k hk=> .inl (by have I:k=w.heap.size:=hk;rw [I];exact hbl)⟩ (fun f hf k hk hfk=>?_) z3.2.2;have I:k=w.heap.size:=hk;rcases hnew k ⟨f,ma _ hf,hfk⟩with M|M
  ·exact hnb k hk (.inl M)
  ·omega
 ·refine⟨st.facts.size,?_,fun j t hj=>t.mono (SH.le_trans (SH.le_refl S) hle2) (st.facts.at_ j t hj)⟩;show CP w.heap.size::a.defers=_;rw [st.facts.defers]
end
section
variable{R:Ending->World->Prop}{ds:List Deferred}
def xp(h:AT ⟨P,⟨N,[]⟩,B,w0,S0,none⟩ (bodyPost P fn R) .ret O G):AT ⟨P,⟨N,[]⟩,B,w0,S0,none⟩ (bodyPostM (fw none) 0 P fn R) .ret O G:=fun a w S st=>by
 obtain⟨I,v,M,h3⟩:=h a w S st;show LeavesInM (fw none) 0 P fn a.tmps R a.defers .returning w;rw [I];exact⟨v,M,h3⟩
def Hc(h:AT ⟨P,⟨N,ds⟩,B,w0,S0,none⟩ (bodyPostM (fw none) 0 P fn R) .ret O G):AT ⟨P,⟨N,CP b::ds⟩,B,w0,S0,none⟩ (bodyPostM (fw none) 0 P fn R) .ret (H0 b::O) G:=fun a w S st=>by
 show LeavesInM (fw none) 0 P fn a.tmps R a.defers .returning w;rw [st.facts.defers];obtain⟨hno,H⟩:=st.own.1.1;have hlt:=(Ba.1 H).1;have hext:kh (fun k=>k=b) w S (w.putObj b (.deferred none)) S:=⟨rfl,rfl,rfl,kG _,by simp,fun k _ hk=>World.putObj_heap_other hk,SH.le_refl _,fun _ _ _=>rfl⟩;have hsat:nC (w.putObj b (.deferred none)) S:=st.sat.same fun k o hk=>by
  have hne:k≠b:=fun e=>by subst e;rw [hno]at hk;cases hk
  exact World.putObj_heap_other hne
 have:=h {a with defers:=ds} (w.putObj b (.deferred none)) S ⟨st.ext.step hext (fun c hc=>st.own.1.2 c hc),hsat,st.own.2.2.ext hext (fun g hg k hk hkb=>st.own.2.1 g hg k hkb hk),⟨st.facts.size,rfl,st.facts.at_⟩⟩;exact⟨by simp,.inl ⟨b,_,rfl,run_takeDeferred H,this⟩⟩
end
def Tx{t:Ty}(hf:P.funcs[f]? =some fn)(H:fn.body=some c)(hN:fn.ntmps=N)(hn:Nat.ble ts.length N=true)(h: ∀w0 S0,CG ⟨P,⟨N,[]⟩,vz,w0,S0,none⟩ (bodyPostM (fw none) 0 P fn (Tb ⟨P,⟨N,[]⟩,vz,w0,S0,none⟩ t)) c [] (xH 0 ts)):bZ P f ts t:=by
 subst hN;intro w S vs hs hv;exact ny.1 (callsIn_of_wp_marks (F:=fw none) (n:=0) hf H trivial (h w S _ w S ⟨kh.refl _ _ _,hs,trivial,qI hv _ (ve hn)⟩))
def rT(t:Ty):Rp Unit where
 sz:=1
 agg:=false
 rc:=fun S cs _=> ∃v,cs=[v]/\v.oneCell' =true/\t.p S v
 mono:=fun h ⟨v,e,k,l⟩=>⟨v,e,k,t.mono h l⟩
 len:=fun⟨_,e,_⟩=>by rw [e];rfl
 one:=fun⟨v,e,k,_⟩ c hc=>by rw [e]at hc;simp at hc;subst hc;exact k
 sc:=fun _=>rfl
variable{cs:List Value}{γ:Type}{u:Rp γ}
def tRT{t:Ty}{u:Unit}{v:Value}:(Q (rT t) u).p S v↔v.oneCell' =true/\t.p S v:=by
 constructor
 ·rintro⟨cs,rfl,w,rfl,I,M⟩;exact⟨I,M⟩
 ·rintro⟨I,M⟩;exact⟨[v],rfl,v,rfl,I,M⟩
variable{aj U:TypeId}{agg:Bool}{bytes:Nat}{dst:Option Tmp}{get:α->β}{k' :IntKind}{lo:Int}{m off sz:Nat}{ys:List α}{z:List Value}
section
variable{ty:TypeId}
def cu.imp{o:Oper}{t u:Ty}(h:cu E O G o t)(k: ∀S v,t.p S v->u.p S v):cu E O G o u:=fun a w S hs ho hf=>
 s9 (fun _ _ ⟨v,S',I,M,h3,h4⟩=>⟨v,S',I,M,h3,k S' v h4⟩) (h a w S hs ho hf)
def JT{res:β->Ty}{f:α->Option β}(V:be E.N G x (eD E.P args res f)):cu E O G ⟨dst,.box aj x,ty,pos,after,g⟩ (bH (rT (eD E.P args res f)) ()):=
 UG (fun S a hf=>tRT.2 ⟨by obtain⟨_,_,e,_⟩:=V S a hf;rw [e];rfl,V S a hf⟩)
def yZ{t:Ty}{p:Operand}(ti:TI E.P U 1 bytes false z)(hp:be E.N G p (bH (rT t) ())):cu E O G ⟨dst,.load U p,ty,pos,after,g⟩ t:=
 (gO (r:=rT t) (x:=()) ti rfl rfl hp).imp fun _ _ h=>(tRT.1 h).2
def Hz:rV.rc S [.slice none 0 0] (aY none 0 0):=⟨rfl,rfl⟩
def Hf{N:Fr}(h:be N G x (tV (aY l cap n))):be N G x (Q rV (aY l cap n)):=fun S a hf=>xN.2 ⟨h S a hf,by cases l<;>rfl⟩
def ip{p:Operand}(ti:TI E.P U 1 bytes false z)(hm:bx rV aj b (aY l cap n)∈O)(hp:be E.N G p (tV (aE b 0))):
  cu E O G ⟨dst,.load U p,ty,pos,after,g⟩ (tV (aY l cap n)):=(bP (q:=rV) (get:=fun x=>x) ti rfl rfl bT hm hp).imp fun _ _ h=>(xN.1 h).1
def df{α:Type}(xs:List α)(lo hi:Int):Option (List α):=if 0<=lo/\lo<=hi/\hi<=(xs.length:Int)then some ((xs.take hi.toNat).drop lo.toNat)else none
def jp(h:df xs lo hi=some ys): ∃l m:Nat,lo=l/\hi=m/\l<=m/\m<=xs.length/\ys=(xs.take m).drop l:=by
 unfold df at h;split at h
 ·rename_i hc;exact⟨lo.toNat,hi.toNat,by omega,by omega,by omega,by omega,by simpa using h.symm⟩
 ·cases h
def EZ{a:Option Addr}{l:Nat}(h:RF r S a xs)(hl:l<=m)(hm:m<=xs.length)(hc:xs.length<=cap):
  RF r S (if cap=l then a else a.map (·.add (l*r.sz))) ((xs.take m).drop l):=by
 by_cases hlm:l=m
 ·left;subst hlm;simp
 right;rcases h with h|⟨b,off,c,aj,fr,e1,e2,e3⟩
 ·subst h;simp at hm;omega
 subst e1;have hne: ¬(cap=l):=by omega
 refine⟨b,off+l*r.sz,c,aj,fr,?_,e2,?_⟩
 ·rw [aR hne];simp [Addr.add]
 have hlen:((xs.take m).drop l).length=m-l:=by simp;omega
 have e4:xs=(xs.take m).take l++((xs.take m).drop l++xs.drop m):=by
  rw [<-mj,A8,A8]
 have I:((xs.take m).take l).length=l:=by simp;omega
 rw [e4]at e3;have M:=(wn e3).2;have h3:=(wn M).1;rw [I]at h3;rw [hlen]at h3 ⊢;rw [<-e4]at h3;rw [Cm,DX,uf]at h3;have hmin:min ((m-l)*r.sz) (xs.length*r.sz-l*r.sz)=(m-l)*r.sz:=by
  rw [<-Nat.sub_mul];exact DY (FR _ (by omega))
 rwa [hmin]at h3
def mZ{n:Int}{y:Nat}{code:BoundsCode}(h0:0<=n)(I:n<=y):(Instr.sliceBound (.int k n) y code).run P w= .ok n.toNat w:=by
 simp [Instr.sliceBound,asIntOf,h0,I]
def Ye{lo hi:Operand}(J:E.P.underlying t=some (.slice aj))(ti:TI E.P aj sz bytes agg z)(hsz:r.sz=sz)(V:be E.N G x (Q (gM r) xs))(hlo:be E.N G lo (Q (rI k) i))(hhi:be E.N G hi (Q (rI k') j))(h:df xs i j=some ys):cu E O G ⟨dst,.slice t x (some lo) (some hi) none,ty,pos,after,g⟩ (Q (gM r) ys):=
 .of_pure fun a w S _ _ hf=>by
  subst hsz;obtain⟨ad,cap,I,M,h3,h4⟩:=rC.1 (V S a hf);have h5:=d7.1 (hlo S a hf);have h6:=d7.1 (hhi S a hf);obtain⟨l,m,rfl,rfl,h7,h8,rfl⟩:=jp h;have hlen:((xs.take m).drop l).length=m-l:=by simp;omega
  refine⟨.slice (if cap=l then ad else ad.map (·.add (l*r.sz))) (m-l) (cap-l),?_,rC.2 ⟨_,cap-l,by rw [hlen],by omega,by omega,EZ h4 h7 h8 M⟩⟩;simp [execOp,Instr.sliceAt,I,h5,h6,Instr.slice,oS J,Instr.sliceBounds,mZ (k:=k') (n:=(m:Int)) (y:=cap) (by omega) (by omega),mZ (k:=k) (n:=(l:Int)) (y:=m) (by omega) (by omega),ti.sizeOf]
def pi{hi:Operand}(J:E.P.underlying t=some (.slice aj))(ti:TI E.P aj sz bytes agg z)(hsz:r.sz=sz)(V:be E.N G x (Q (gM r) xs))(hhi:be E.N G hi (Q (rI k') j))(h:df xs 0 j=some ys):cu E O G ⟨dst,.slice t x none (some hi) none,ty,pos,after,g⟩ (Q (gM r) ys):=
 .of_pure fun a w S _ _ hf=>by
  subst hsz;obtain⟨ad,cap,I,M,h3,h4⟩:=rC.1 (V S a hf);have h6:=d7.1 (hhi S a hf);obtain⟨l,m,hl,rfl,h7,h8,rfl⟩:=jp h;have hl0:l=0:=by omega
  subst hl0;have hlen:((xs.take m).drop 0).length=m-0:=by simp;omega
  refine⟨.slice (if cap=0 then ad else ad.map (·.add (0*r.sz))) (m-0) (cap-0),?_,rC.2 ⟨_,cap-0,by rw [hlen],by omega,by omega,EZ h4 h7 h8 M⟩⟩;simp [execOp,Instr.sliceAt,I,h6,Instr.slice,oS J,Instr.sliceBounds,mZ (k:=k') (n:=(m:Int)) (y:=cap) (by omega) (by omega),ti.sizeOf]
def LA{lo:Operand}(J:E.P.underlying t=some (.slice aj))(ti:TI E.P aj sz bytes agg z)(hsz:r.sz=sz)(V:be E.N G x (Q (gM r) xs))(hlo:be E.N G lo (Q (rI k) i))(h:df xs i (xs.length:Int)=some ys):cu E O G ⟨dst,.slice t x (some lo) none none,ty,pos,after,g⟩ (Q (gM r) ys):=
 .of_pure fun a w S _ _ hf=>by
  subst hsz;obtain⟨ad,cap,I,M,h3,h4⟩:=rC.1 (V S a hf);have h5:=d7.1 (hlo S a hf);obtain⟨l,m,rfl,hm,h7,h8,rfl⟩:=jp h;have hm' :m=xs.length:=by omega
  subst hm';have hlen:((xs.take xs.length).drop l).length=xs.length-l:=by simp
  refine⟨.slice (if cap=l then ad else ad.map (·.add (l*r.sz))) (xs.length-l) (cap-l),?_,rC.2 ⟨_,cap-l,by rw [hlen],by omega,by omega,EZ h4 h7 h8 M⟩⟩;simp [execOp,Instr.sliceAt,I,h5,Instr.slice,oS J,Instr.sliceBounds,mZ (k:=k) (n:=(l:Int)) (y:=xs.length) (by omega) (by omega),ti.sizeOf]
end
def pf(P:Program){α:Type} [DecidableEq α](t:TypeId)(r:Rp α)(n:Nat):Prop:=
 ∀(S:SH) (cs ds:List Value) (x y:α) (d:Nat) (w:World),r.rc S cs x->r.rc S ds y->(Op.equalIn (d+n) t (r.val cs) (r.val ds)).run P w= .ok (decide (x=y)) w
def ye(h:P.underlying t=some (.int k')):pf P t (rI k) (n+1):=fun S cs ds x y d w V hy=>by
 have I:cs=[.int k x]:=V;have M:ds=[.int k y]:=hy;subst I M;have:(Op.equalIn (d+n+1) t (.int k x) (.int k y)).run P w= .ok (x==y) w:=by simp [Op.equalIn,oS h]
 have e:(x==y)=decide (x=y):=by by_cases h:x=y<;>simp [h]
 rw [e]at this;exact this
def aa1(h:P.underlying t=some .bool):pf P t rB (n+1):=fun S cs ds x y d w V hy=>by
 have I:cs=[.bool x]:=V;have M:ds=[.bool y]:=hy;subst I M;have:=run_equalIn_bool' (P:=P) w (d+n) t x y h;simp only [Rp.val,rB,List.headD_cons,jM,gT];rw [show d+(n+1)=d+n+1 from rfl,this];cases x<;>cases y<;>rfl
def aey(h:P.underlying t=some .string):pf P t rS (n+1):=fun S cs ds x y d w V hy=>by
 have I:cs=[.string ⟨x.toArray⟩]:=V;have M:ds=[.string ⟨y.toArray⟩]:=hy;subst I M;have:=run_equalIn_string (P:=P) w (d+n) t ⟨x.toArray⟩ ⟨y.toArray⟩ h;simp only [Rp.val,rS,List.headD_cons,jM,gT];rw [show d+(n+1)=d+n+1 from rfl,this];simp only [ByteArray.toList_eq];by_cases e:x=y<;>simp [e]
abbrev Fd:=TypeId×Nat×Bool
def UV(f:Field):Fd:=(f.type,f.offset,f.name== "_")
def YA(d:Nat)(xs ys:Array Value):List Fd->Sem Bool
 |[]=>pure true
 |f::fs=>
  if f.2.2=false then do
   let a<-part f.1 xs f.2.1
   let b<-part f.1 ys f.2.1
   let r<-Op.equalIn d f.1 a b
   if(!r)=true then pure false else YA d xs ys fs
  else YA d xs ys fs
def Ta(d:Nat)(xs ys:Array Value): ∀fs:List Field,Op.eqFields d xs ys fs=YA d xs ys (fs.map UV)
 |[]=>rfl
 |f::fs=>by
  unfold Op.eqFields YA;rw [Ta d xs ys fs];by_cases h:f.name= "_"
  ·have e:((UV f).2.2=false)=False:=by simp [UV,h]
   simp only [va,e,gT];rw [aR (by simpa using h)]
  ·have e:((UV f).2.2=false)=True:=by simp [UV,h]
   simp only [va,e,hM];rw [bz (by simpa using h)];rfl
def Pi(P:Program){α:Type}(r:Rp α)(n:Nat)(fs:List Fd)(c:α->α->Bool):Prop:=
 ∀(S:SH) (cs ds:List Value) (x y:α) (d:Nat) (w:World),r.rc S cs x->r.rc S ds y->(YA (d+n) cs.toArray ds.toArray fs).run P w= .ok (c x y) w
def Pi.nil:Pi P r n [] (fun _ _=>true):=fun _ _ _ _ _ _ _ _ _=>rfl
def xU(ti:TI P t sz bytes agg z)(hsz:q.sz=sz)(hag:q.agg=agg)(hf:ro r off q get){x:α}(V:r.rc S cs x)(w:World):
  (part t cs.toArray off).run P w= .ok (q.val ((cs.drop off).take q.sz)) w:=by
 have h:=hf S cs x V;have hl:=q.len h;subst hsz hag;unfold part;by_cases ha:q.agg=true
 ·have e1:=ti.isAgg w;simp only [Ak,e1,ha,B8,hM,ti.sizeOf,Sem.run_pure];unfold Rp.val;rw [bz ha];congr 2;apply Array.ext';simp
 ·rw [yE]at ha;have e1:=ti.isAgg w;have hs1:=q.sc ha;simp only [Ak,e1,ha,B8,jM,gT];rw [hs1]at hl ⊢;obtain⟨v,hv⟩:=VC.1 hl;have hc:cs[off]? =some v:=by
   have:((cs.drop off).take 1)[0]? =some v:=by rw [hv];rfl
   rw [D1 (by omega),A7]at this;simpa using this
  unfold Rp.val;rw [hv,ha];simp [hc]
def Pi.cons [DecidableEq β]{t:Nat}{fs:List Fd}{c:α->α->Bool}(ti:TI P t sz bytes agg z)(hsz:q.sz=sz)(hag:q.agg=agg)(hf:ro r off q get)(he:pf P t q n)(hr:Pi P r n fs c):
  Pi P r n ((t,off,false)::fs) (fun x y=>decide (get x=get y)&&c x y):=fun S cs ds x y d w V hy=>by
 have I:=xU ti hsz hag hf V w;have M:=xU ti hsz hag hf hy w;have h3:=he S _ _ _ _ d w (hf S cs x V) (hf S ds y hy);unfold YA;simp only [hM,Ak,I,M,h3,B8];by_cases e:get x=get y
 ·simp only [e,decide_true,rM,jM,gT,Al];exact hr S cs ds x y d w V hy
 ·simp [e]
def Fv [DecidableEq α]{t:Nat}{fs:List Fd}{c:α->α->Bool}(J:(P.underlying t).map (fun d=>match d with| .struct l=>(true,l.toList.map UV)|_=>(false,[]))=some (true,fs))(hp:P.stoodInHeld t=false)(ha:r.agg=true)(hr:Pi P r n fs c)(hc: ∀x y,c x y=decide (x=y)):pf P t r (n+1):=fun S cs ds x y d w V hy=>by
 obtain⟨l,I,M⟩: ∃l,P.underlying t=some (.struct l)/\l.toList.map UV=fs:=by
  cases hu:P.underlying t with
  |none=>rw [hu]at J;cases J
  |some d=>
   rw [hu]at J;cases d<;>simp at J;exact⟨_,rfl,J⟩
 have hfo:P.fieldsOf t=l:=by unfold Program.fieldsOf;rw [I]
 have:=run_equalIn_struct (P:=P) w (d+n) t cs.toArray ds.toArray (by rw [hfo];exact I) hp;rw [xK ha,xK ha,show d+(n+1)=d+n+1 from rfl,this,hfo,Ta,M,hr S cs ds x y d w V hy,hc]
def oN [DecidableEq α](h:pf P t r n)(m:Nat):pf P t r (m+n):=fun S cs ds x y d w V hy=>by
 have:=h S cs ds x y (d+m) w V hy
 rwa [Nat.add_assoc]at this
def Zc.of [DecidableEq α](hg:P.eqGuardType P.depth t=false)(h:pf P t r 20):Zc P t r:=⟨hg,fun S cs ds x y d w V hy=>h S cs ds x y d w V hy⟩
def Td{l:List α}{i:Nat}{e:α}(h:xs.drop i=e::l):decide ((i:Int)<(xs.length:Int))=true:=by
 have:i<xs.length:=by
  rcases wN i xs.length with h' |h'
  ·exact h'
  ·rw [D0 h']at h;cases h
 simp;omega
def WX{i:Nat}(h:xs.drop i=[]):decide ((i:Int)<(xs.length:Int))=false:=by
 have:=Jq.1 h;simp;omega
def cJ{l:List α}{i:Nat}{e:α}(h:xs.drop i=e::l):xs.drop (i+1)=l:=by
 rw [<-uf,h];rfl
def de{l:List α}{i:Nat}{e:α}(h:xs.drop i=e::l):cO xs (i:Int)=some e:=by
 rw [cG];have:=A7 (xs:=xs) (i:=i) (j:=0);rw [h]at this;simpa using this.symm
def Te{l:List α}{i:Nat}{e:α}(h:xs.drop i=e::l)(hN:xs.length<=maxLen):i<9223372036854775807:=by
 have:=Kr (Td h);simp only [maxLen]at hN;omega
def Z0{i k:Nat}(h:N-i=k+1):decide ((i:Int)<(N:Int))=true:=by simp;omega
def Z1{i:Nat}(h:N-i=0):decide ((i:Int)<(N:Int))=false:=by simp;omega
def Sl{i k:Nat}(h:N-i=k+1):N-(i+1)=k:=by omega
def Sn{i k:Nat}(h:N-i=k+1)(hN:N<=9223372036854775807):i<9223372036854775807:=by omega
def Z8(h:n<=maxLen):n<=9223372036854775807:=by simp only [maxLen]at h;omega
variable{ix:Operand}{mm:Bool}{set:α->β->α}{zs:List α}
section
variable{e:Exit}
section
variable{ty:TypeId}
def xZ{i:Nat}{one:Operand}{xt yt:TypeId}(hi:i<9223372036854775807)(V:be E.N G x (Q (rI .i64) (i:Int)))(I:be E.N G one (Q (rI .i64) 1)):
  cu E O G ⟨dst,.binOp .add xt x one yt,ty,pos,after,g⟩ (Q (rI .i64) ((i+1:Nat):Int)):=by
 have e:IntKind.i64.wrap ((i:Int)+1)=((i+1:Nat):Int):=by
  rw [Kn];omega
 have:=mC (E:=E) (O:=O) (dst:=dst) (ty:=ty) (pos:=pos) (after:=after) (g:=g) (xt:=xt) (yt:=yt) V I
 rwa [e]at this
end
def gH(hm:pw mm r aj l cap xs∈O)(h:xs.length<=maxLen->CG E tD c O G):CG E tD c O G:=fun a w S st=>by
 refine h ?_ a w S st;obtain⟨cells,I,_⟩:=(st.own.mem _ hm).1
 cases l with
 |none=>have:=I.1;omega
 |some b=>obtain⟨cur,_,g2,g3,_⟩:=I;exact wP g2 g3
def St.dataAt{k:Nat}(h:St E O G a w S)(hk:cH G k=some (tO r l cap xs)):St E O ((k,Q (gM r) xs)::G) a w S:=h.cons (h.facts.at_ k _ hk).2
def mL(k:Nat)(hk:cH G k=some (tO r l cap xs))(h:AT E tD e O ((k,Q (gM r) xs)::G)):AT E tD e O G:=fun a w S st=>h a w S (st.dataAt hk)
def nc(l:Option Nat)(off:Nat):Value:=
 match l with
 |none=> .pointer none
 |some b=>aE b off
def wZ(h:H9 mm r aj l cap xs w S){i:Nat}{e:α}(hi:xs[i]? =some e):
  ∃b cur,l=some b/\w.heap[b]? =some (.cells cur aj (0,0))/\xs.length<=cap/\cur.size=cap*r.sz/\r.rc S ((cur.toList.drop (i*r.sz)).take r.sz) e:=by
 obtain⟨cells,I,M,_⟩:=h;have hlt:=(qS.1 hi).1
 cases l with
 |none=>have:=I.1;omega
 |some b=>
  obtain⟨cur,g1,g2,g3,g4,g5⟩:=I;refine⟨b,cur,rfl,g1,g2,g4,?_⟩;have h3:=Br M hi;rw [<-g5,Cm,DX]at h3;have h4:i*r.sz+r.sz<=xs.length*r.sz:=by
   rw [<-Nat.succ_mul];exact FR _ hlt
  rwa [DY (by omega)]at h3
def m7{e:α}(h:cO xs i=some e):0<=i/\xs[i.toNat]? =some e:=by
 unfold cO at h;split at h
 ·exact⟨by assumption,h⟩
 ·cases h
section
variable{ty:TypeId}
def ce{e:TypeId}(J:E.P.underlying t=some (.slice e))(ti:TI E.P e sz bytes agg z)(hm:pw mm r U l cap xs∈O)(V:be E.N G x (tV (aY l cap n)))(hi:be E.N G ix (Q (rI k) i))(hy:cO xs i=some y)(hn:n=xs.length:=by rfl):
  cu E O G ⟨dst,.indexAddr t x ix,ty,pos,after,g⟩ (tV (nc l (i.toNat*sz+0))):=
 .of_pure fun a w S _ ho hf=>by
  subst hn;have I:a.eval x=aY l cap xs.length:=V S a hf;have h3:a.eval ix= .int k i:=d7.1 (hi S a hf);obtain⟨h0,hy'⟩:=m7 hy;obtain⟨b,cur,rfl,_⟩:=wZ (ho.mem _ hm).1 hy';have hlt:i.toNat<xs.length:=(qS.1 hy').1;refine⟨_,?_,rfl⟩;have hc:0<=i/\i<(xs.length:Int):=⟨h0,by omega⟩;simp [execOp,I,h3,aY,Instr.indexAt,asIntOf,oS J,hc,ti.sizeOf,nf,nc,aE]
def dj{foff:Nat}{p:Operand}(ti:TI E.P aj sz bytes agg z)(hsz:q.sz=sz)(hag:q.agg=agg)(hget:ro r foff q get)(hoff:Nat.ble (foff+q.sz) r.sz=true)(hm:pw mm r U l cap xs∈O)(hy:cO xs i=some y)(hp:be E.N G p (tV (nc l (i.toNat*r.sz+foff)))):cu E O G ⟨dst,.load aj p,ty,pos,after,g⟩ (Q q (get y)):=
 .of_pure fun a w S _ ho hf=>by
  have I:a.eval p=nc l (i.toNat*r.sz+foff):=hp S a hf;obtain⟨h0,hy'⟩:=m7 hy;obtain⟨b,cur,rfl,H,_,_,h6⟩:=wZ (ho.mem _ hm).1 hy';have hoff' :=ve hoff;have h7:=hget S _ _ h6;rw [Cm,DX,uf,DY (by omega)]at h7;refine⟨_,?_,_,rfl,h7⟩;simp [execOp,I,nc,aE,Instr.loadAt,Instr.sureAddr,oD ti H hsz hag h7]
def Nw{o i:Nat}{p:Operand}(hf:dv E.P aj i=some (off,sz))(h0:Nat.beq sz 0=false)(hm:pw mm r U l cap xs∈O)(hy:cO xs j=some y)(hp:be E.N G p (tV (nc l o))):
  cu E O G ⟨dst,.fieldAddr aj p i,ty,pos,after,g⟩ (tV (nc l (o+off))):=
 .of_pure fun a w S _ ho hF=>by
  have I:a.eval p=nc l o:=hp S a hF;obtain⟨_,hy'⟩:=m7 hy;obtain⟨b,cur,rfl,_⟩:=wZ (ho.mem _ hm).1 hy';obtain⟨fs,f,e1,e2,e3,e4⟩:=Hu hf;have h0' :sz≠0:=fun e=>by subst e;simp at h0
  refine⟨_,?_,rfl⟩;simp [execOp,I,nc,aE,Instr.fieldAt,oS e1,e2,Instr.sureAddr,fieldPlace,e4,h0',e3,nf]
end
def Gs{α:Type}{r:Rp α}{S:SH}{y:α}{c:List Value}(hc:r.rc S c y): ∀{xs:List α} {i:Nat} {cs:List Value},xX r S cs xs->i<xs.length->xX r S (cs.take (i*r.sz)++c++cs.drop (i*r.sz+r.sz)) (xs.set i y)
 |[],_,_,_,h=>by simp at h
 |x::xs,0,cs,⟨a,b,e,I,M⟩,_=>by
  have hl:=r.len I;refine⟨c,b,?_,hc,M⟩;rw [e,<-hl];simp
 |x::xs,i+1,cs,⟨a,b,e,I,M⟩,h=>by
  have hl:=r.len I;have ih:=Gs hc M (i:=i) (by simpa using h);refine⟨a,_,?_,I,ih⟩;have e1:(i+1)*r.sz=a.length+i*r.sz:=by rw [hl,vg];omega
  rw [e,e1,List.take_length_add_append,Nat.add_assoc,List.drop_length_add_append];simp
def nm{foff:Nat}{v:β}{p:Operand}{ty:TypeId}(ti:TI E.P aj sz bytes agg z)(hsz:q.sz=sz)(hset:k7 r foff q set)(hoff:Nat.ble (foff+q.sz) r.sz=true)(hy:cO xs i=some y)(hz:xs.set i.toNat (set y v)=zs)(hp:be E.N G p (tV (nc l (i.toNat*r.sz+foff))))(V:be E.N G x (Q q v))(k:RG E ops tD rest (eV r U l cap zs::O) G):
  RG E ops tD (⟨none,.store aj p x,ty,pos,after,none⟩::rest) (eV r U l cap xs::O) G:= .of rfl fun a w S st=>by
 subst hz;have I:a.eval p=nc l (i.toNat*r.sz+foff):=hp S a st.facts;obtain⟨ds,M,h3⟩:=V S a st.facts;obtain⟨h0,hy'⟩:=m7 hy;have hlt:i.toNat<xs.length:=(qS.1 hy').1;obtain⟨cells,hraw,hrc,hno⟩:=st.own.1.1;obtain⟨b,cur,rfl,H,hle,hcs,h6⟩:=wZ st.own.1.1 hy';obtain⟨cur',hb',hle',hmax,hcs',hct⟩:=hraw;have hcc:cur' =cur:=by rw [H]at hb';injection hb' with e;injection e with e1;exact e1.symm
 subst hcc;have hno' :S b=none:=hno b rfl;have hoff' :=ve hoff;have hl3:=q.len h3;have hmul:i.toNat*r.sz+r.sz<=xs.length*r.sz:=by rw [<-Nat.succ_mul];exact FR _ hlt
 have hmul2:xs.length*r.sz<=cur'.size:=by rw [hcs];exact FR _ hle
 obtain⟨w',hr,e1,e2,e3,e4,e5,e6⟩:=nq ti hsz h3 H (off:=i.toNat*r.sz+foff) (by omega);have hrun:(execOp a.eval ⟨none,.store aj p x,ty,pos,after,none⟩).run E.P w= .ok .skip w' :=by
  simp [execOp,I,M,Instr.storeAt,nc,aE,Instr.sureAddr,hr]
 refine⟨fun c h=>(by cases h),?_⟩;rw [hrun];have hnew:=hset S _ _ _ _ h6 h3;have hrc' :=Gs hnew hrc hlt;have hcl:=s7 hrc;have hcells:(cur'.toList.take (i.toNat*r.sz+foff)++ds++cur'.toList.drop (i.toNat*r.sz+foff+q.sz)).take (xs.length*r.sz)=
   cells.take (i.toNat*r.sz)++(((cur'.toList.drop (i.toNat*r.sz)).take r.sz).take foff++ds++((cur'.toList.drop (i.toNat*r.sz)).take r.sz).drop (foff+q.sz))++cells.drop (i.toNat*r.sz+r.sz):=by
  subst hct;apply Kq;intro j;simp only [List.getElem?_take,List.getElem?_append,A7,At,Em,lj,Iv];rcases wN j (xs.length*r.sz)with hj|hj
  ·simp only [hj,hM];rcases wN j (i.toNat*r.sz)with hj1|hj1
   ·rw [bz (by omega),bz (by omega),bz (by omega),bz (by omega),bz (by omega),bz (by omega)]
   ·rcases wN j (i.toNat*r.sz+foff)with hj2|hj2
    ·rw [bz (by omega),bz (by omega),bz (by omega),bz (by omega),aR (by omega),bz (by omega),bz (by omega),bz (by omega),bz (by omega)];congr 1;omega
    ·rcases wN j (i.toNat*r.sz+foff+q.sz)with hj3|hj3
     ·rw [bz (by omega),aR (by omega),bz (by omega),aR (by omega),bz (by omega),aR (by omega)];congr 1;omega
     ·rw [aR (by omega)];rcases wN j (i.toNat*r.sz+r.sz)with hj4|hj4
      ·rw [bz (by omega),aR (by omega),aR (by omega),bz (by omega)];congr 1;omega
      ·rw [aR (by omega),bz (by omega)];congr 1;omega
  ·rw [aR (by omega),aR (by omega),aR (by omega)]
 obtain⟨g1,g2,g3⟩:=uK (O:=O) st.sat (eV r U (some b) cap xs) (eV r U (some b) cap (xs.set i.toNat (set y v))) st.own (fun k=>⟨fun h=>(vc h).symm,fun h=>by rw [h];rfl⟩) (fun k=>⟨fun h=>(vc h).symm,fun h=>by rw [h];rfl⟩) ⟨e1,e2,e3,e4.1,e4.2⟩ e6
  ⟨_,⟨_,e5,by rw [NQ];exact hle,hmax,by simp only [NT,lj,At,Em,Iv];omega,by rw [NQ];exact hcells⟩,hrc',fun k hk=>by rw [<-vc hk];exact hno'⟩ hno'
 exact k _ _ S ⟨st.ext.step g1 (fun c hc=>st.own.1.2 c (by rw [hc];rfl)),g2,g3,st.facts⟩
def sY(sz:Nat)(l:Option Nat)(cap lo n:Nat):Value:=
 match l with
 |none=> .slice none 0 0
 |some b=> .slice (some ⟨b,if cap=lo then 0 else lo*sz,none⟩) n (cap-lo)
section
variable{ty:TypeId}
def Oq(h:H9 mm r U l cap xs w S): ∃ad c,aY l cap xs.length= .slice ad xs.length c/\xs.length<=c/\ad=l.map (fun b=>⟨b,0,none⟩)/\(l=none->c=0/\xs=[])/\(l≠none->c=cap):=by
 obtain⟨cells,I,_⟩:=h
 cases l with
 |none=>
  have V:xs=[]:=Ao I.1;subst V;exact⟨none,0,rfl,kG _,rfl,fun _=>⟨rfl,rfl⟩,fun h=>absurd rfl h⟩
 |some b=>
  obtain⟨cur,_,g2,_⟩:=I;exact⟨_,cap,rfl,g2,rfl,fun h=>(by cases h),fun _=>rfl⟩
def m4{hi:Operand}(J:E.P.underlying t=some (.slice aj))(ti:TI E.P aj sz bytes agg z)(hsz:r.sz=sz)(hm:pw mm r U l cap xs∈O)(V:be E.N G x (tV (aY l cap n)))(hhi:be E.N G hi (Q (rI k') j))(h:df xs 0 j=some ys)(hn:n=xs.length:=by rfl):cu E O G ⟨dst,.slice t x none (some hi) none,ty,pos,after,g⟩ (tV (aY l cap ys.length)):=
 .of_pure fun a w S _ ho hf=>by
  subst hsz;subst hn;have I:a.eval x=aY l cap xs.length:=V S a hf;obtain⟨ad,c,M,h3,h4,h5,h5'⟩:=Oq (ho.mem _ hm).1;have h6:=d7.1 (hhi S a hf);obtain⟨lo,m,hl,rfl,h7,h8,rfl⟩:=jp h;have hl0:lo=0:=by omega
  subst hl0;have hlen:((xs.take m).drop 0).length=m:=by simp;omega
  refine⟨_,?_,rfl⟩;rw [M]at I;have hr:(execOp a.eval ⟨dst,.slice t x none (some hi) none,ty,pos,after,g⟩).run E.P w= .ok (.value (.slice ad m c)) w:=by
   simp [execOp,Instr.sliceAt,I,h6,Instr.slice,oS J,Instr.sliceBounds,mZ (k:=k') (n:=(m:Int)) (y:=c) (by omega) (by omega),ti.sizeOf];cases ad<;>simp [Addr.add]
  rw [hr,hlen,h4]
  cases l with
  |none=>
   obtain⟨rfl,rfl⟩:=h5 rfl;have:m=0:=by simpa using h8
   subst this;rfl
  |some b=>rw [h5' (by simp)];rfl
def qn{lo:Operand}(J:E.P.underlying t=some (.slice aj))(ti:TI E.P aj sz bytes agg z)(hsz:r.sz=sz)(hm:pw mm r U l cap xs∈O)(V:be E.N G x (tV (aY l cap n)))(hlo:be E.N G lo (Q (rI k) i))(h:df xs i (xs.length:Int)=some ys)(hn:n=xs.length:=by rfl):cu E O G ⟨dst,.slice t x (some lo) none none,ty,pos,after,g⟩ (tV (sY sz l cap i.toNat ys.length)):=
 .of_pure fun a w S _ ho hf=>by
  subst hsz;subst hn;have I:a.eval x=aY l cap xs.length:=V S a hf;obtain⟨ad,c,M,h3,h4,h5,h5'⟩:=Oq (ho.mem _ hm).1;have h6:=d7.1 (hlo S a hf);obtain⟨lo',m,rfl,hm',h7,h8,rfl⟩:=jp h;have hm2:m=xs.length:=by omega
  subst hm2;have hlen:((xs.take xs.length).drop lo').length=xs.length-lo' :=by simp
  refine⟨_,?_,rfl⟩;rw [M]at I;have hr:(execOp a.eval ⟨dst,.slice t x (some lo) none none,ty,pos,after,g⟩).run E.P w= .ok (.value (.slice (if c=lo' then ad else ad.map (·.add (lo' *r.sz))) (xs.length-lo') (c-lo'))) w:=by
   simp [execOp,Instr.sliceAt,I,h6,Instr.slice,oS J,Instr.sliceBounds,mZ (k:=k) (n:=(lo' :Int)) (y:=xs.length) (by omega) (by omega),ti.sizeOf]
  rw [hr,hlen,h4]
  cases l with
  |none=>
   obtain⟨rfl,rfl⟩:=h5 rfl;have:lo' =0:=by simpa using h7
   subst this;rfl
  |some b=>
   rw [h5' (by simp)];unfold sY;simp only [zn,Iq,nf,u9];split<;>rfl
def KU(h:df xs lo hi=some ys)(hy:cO ys i=some y):cO xs (lo+i)=some y/\0<=lo/\0<=i:=by
 obtain⟨l,m,rfl,rfl,I,M,rfl⟩:=jp h;obtain⟨h0,h3⟩:=m7 hy;refine⟨?_,by omega,h0⟩;obtain⟨j,rfl⟩: ∃j:Nat,i=j:=⟨i.toNat,by omega⟩;rw [show((l:Int)+(j:Int))=((l+j:Nat):Int)from by omega,cG];rw [A7,zn]at h3;have hlt:l+j<m:=by
  have:=(qS.1 h3).1;simp at this;omega
 rwa [D1 hlt]at h3
def Nv{e:TypeId}(J:E.P.underlying t=some (.slice e))(ti:TI E.P e sz bytes agg z)(hsz:r.sz=sz)(hm:pw mm r U l cap xs∈O)(hs:df xs lo hi=some ys)(V:be E.N G x (tV (sY sz l cap lo.toNat ys.length)))(hi' :be E.N G ix (Q (rI k) i))(hy:cO ys i=some y):
  cu E O G ⟨dst,.indexAddr t x ix,ty,pos,after,g⟩ (tV (nc l ((lo+i).toNat*sz+0))):=
 .of_pure fun a w S _ ho hf=>by
  subst hsz;have I:a.eval x=sY r.sz l cap lo.toNat ys.length:=V S a hf;have h3:a.eval ix= .int k i:=d7.1 (hi' S a hf);obtain⟨hxi,hl0,hi0⟩:=KU hs hy;obtain⟨_,hx'⟩:=m7 hxi;obtain⟨b,cur,rfl,_,hle,_⟩:=wZ (ho.mem _ hm).1 hx';have hlt:i.toNat<ys.length:=(qS.1 (m7 hy).2).1;have hlt2:(lo+i).toNat<xs.length:=(qS.1 hx').1;have hne: ¬(cap=lo.toNat):=by omega
  refine⟨_,?_,rfl⟩;have hc:0<=i/\i<(ys.length:Int):=⟨hi0,by omega⟩;have e1:(lo+i).toNat=lo.toNat+i.toNat:=by omega
  simp [execOp,I,h3,sY,hne,Instr.indexAt,asIntOf,oS J,hc,ti.sizeOf,nf,nc,aE,e1,vg]
def acu{e:TypeId}(J:E.P.underlying t=some (.slice e))(hm:pw mm r U l cap xs∈O)(hs:df xs lo hi=some ys)(V:be E.N G x (tV (sY sz l cap lo.toNat ys.length))):
  cu E O G ⟨dst,.call ⟨.builtin .len,#[x],#[t]⟩,ty,pos,after,g⟩ (Q (rI .i64) (ys.length:Int)):=
 .of_pure fun a w S _ ho hf=>by
  have I:a.eval x=sY sz l cap lo.toNat ys.length:=V S a hf;obtain⟨ad,c,h3⟩: ∃ad c,sY sz l cap lo.toNat ys.length= .slice ad ys.length c:=by
   cases l with
   |none=>
    obtain⟨_,M,_⟩:=(ho.mem _ hm).1;have hx0:xs=[]:=Ao M.1;subst hx0;obtain⟨l',m,_,_,_,h8,rfl⟩:=jp hs;exact⟨none,0,by simp [sY]⟩
   |some b=>exact⟨_,_,rfl⟩
  refine⟨.int .i64 ys.length,?_,d7.2 rfl⟩;simp [execOp,resolve,invoke,builtin,Builtin.len_,oS J,I,h3,goInt]
end
def aeQ(h:df xs 0 j=some ys)(k:H9 false r U l cap xs w S):H9 false r U l cap ys w S:=by
 obtain⟨lo,m,hl,rfl,h7,h8,rfl⟩:=jp h;have hl0:lo=0:=by omega
 subst hl0;obtain⟨cells,I,M,h3⟩:=k;have hlen:((xs.take m).drop 0).length=m:=by simp;omega
 have h4:xX r S (cells.take (m*r.sz)) (xs.take m):=by
  have e:xs=xs.take m++xs.drop m:=(A8 _ _).symm;rw [e]at M;have:=(wn M).1
  rwa [show(xs.take m).length=m from by simp;omega]at this
 refine⟨cells.take (m*r.sz),?_,by simpa using h4,fun b H=>h3 b H⟩;rw [hlen]
 cases l with
 |none=>
  obtain⟨g1,g2⟩:=I;exact⟨by omega,by rw [g2];simp⟩
 |some b=>
  obtain⟨cur,g1,g2,g3,g4,g5⟩:=I;exact⟨cur,g1,by omega,g3,g4,by rw [<-g5,DX,DY (FR _ h8)]⟩
def St.cut(h:df xs 0 j=some ys)(st:St E (eV r U l cap xs::O) G a w S):St E (eV r U l cap ys::O) G a w S:=
 st.own_map fun ho=>⟨⟨aeQ h ho.1.1,ho.1.2⟩,ho.2.1,ho.2.2⟩
def zh(h:df xs 0 j=some ys)(k:RG E ops tD rest (eV r U l cap ys::O) G):RG E ops tD rest (eV r U l cap xs::O) G:=fun a w S st=>k a w S (st.cut h)
end
variable{x0 x4 x5 x6 x7 x8 x9:OE}
section
variable{e:Exit}
def BT{O:List OE}(h:dW base B w S (x0::x1::x2::x3::x4::x5::O)):dW base B w S (x5::x0::x1::x2::x3::x4::O):=
 (xm h zk (fun f hf=>by simp only [iW]at hf ⊢;rcases hf with h|h|h|h|h|h<;>simp [h])).swap
def u0(h:RG E ops tD rest (x5::x0::x1::x2::x3::x4::O) G):RG E ops tD rest (x0::x1::x2::x3::x4::x5::O) G:=fun a w S st=>h a w S (st.own_map BT)
def oz(h:AT E tD e (x5::x0::x1::x2::x3::x4::O) G):AT E tD e (x0::x1::x2::x3::x4::x5::O) G:=fun a w S st=>h a w S (st.own_map BT)
def tt(h:LG E tD c (x5::x0::x1::x2::x3::x4::O) G):LG E tD c (x0::x1::x2::x3::x4::x5::O) G:=fun a w S st=>h a w S (st.own_map BT)
def zj{O:List OE}(h:dW base B w S (x0::x1::x2::x3::x4::x5::x6::O)):dW base B w S (x6::x0::x1::x2::x3::x4::x5::O):=
 (xm h BT (fun f hf=>by simp only [iW]at hf ⊢;rcases hf with h|h|h|h|h|h|h<;>simp [h])).swap
def DU(h:RG E ops tD rest (x6::x0::x1::x2::x3::x4::x5::O) G):RG E ops tD rest (x0::x1::x2::x3::x4::x5::x6::O) G:=fun a w S st=>h a w S (st.own_map zj)
def qf(h:AT E tD e (x6::x0::x1::x2::x3::x4::x5::O) G):AT E tD e (x0::x1::x2::x3::x4::x5::x6::O) G:=fun a w S st=>h a w S (st.own_map zj)
def u3(h:LG E tD c (x6::x0::x1::x2::x3::x4::x5::O) G):LG E tD c (x0::x1::x2::x3::x4::x5::x6::O) G:=fun a w S st=>h a w S (st.own_map zj)
def zi{O:List OE}(h:dW base B w S (x0::x1::x2::x3::x4::x5::x6::x7::O)):dW base B w S (x7::x0::x1::x2::x3::x4::x5::x6::O):=
 (xm h zj (fun f hf=>by simp only [iW]at hf ⊢;rcases hf with h|h|h|h|h|h|h|h<;>simp [h])).swap
def YT(h:RG E ops tD rest (x7::x0::x1::x2::x3::x4::x5::x6::O) G):RG E ops tD rest (x0::x1::x2::x3::x4::x5::x6::x7::O) G:=fun a w S st=>h a w S (st.own_map zi)
def Y9(h:AT E tD e (x7::x0::x1::x2::x3::x4::x5::x6::O) G):AT E tD e (x0::x1::x2::x3::x4::x5::x6::x7::O) G:=fun a w S st=>h a w S (st.own_map zi)
def Pf(h:LG E tD c (x7::x0::x1::x2::x3::x4::x5::x6::O) G):LG E tD c (x0::x1::x2::x3::x4::x5::x6::x7::O) G:=fun a w S st=>h a w S (st.own_map zi)
def FG{O:List OE}(h:dW base B w S (x0::x1::x2::x3::x4::x5::x6::x7::x8::O)):dW base B w S (x8::x0::x1::x2::x3::x4::x5::x6::x7::O):=
 (xm h zi (fun f hf=>by simp only [iW]at hf ⊢;rcases hf with h|h|h|h|h|h|h|h|h<;>simp [h])).swap
def Pn(h:AT E tD e (x8::x0::x1::x2::x3::x4::x5::x6::x7::O) G):AT E tD e (x0::x1::x2::x3::x4::x5::x6::x7::x8::O) G:=fun a w S st=>h a w S (st.own_map FG)
def YW(h:LG E tD c (x8::x0::x1::x2::x3::x4::x5::x6::x7::O) G):LG E tD c (x0::x1::x2::x3::x4::x5::x6::x7::x8::O) G:=fun a w S st=>h a w S (st.own_map FG)
def ML{O:List OE}(h:dW base B w S (x0::x1::x2::x3::x4::x5::x6::x7::x8::x9::O)):dW base B w S (x9::x0::x1::x2::x3::x4::x5::x6::x7::x8::O):=
 (xm h FG (fun f hf=>by simp only [iW]at hf ⊢;rcases hf with h|h|h|h|h|h|h|h|h|h<;>simp [h])).swap
def ii(h:AT E tD e (x9::x0::x1::x2::x3::x4::x5::x6::x7::x8::O) G):AT E tD e (x0::x1::x2::x3::x4::x5::x6::x7::x8::x9::O) G:=fun a w S st=>h a w S (st.own_map ML)
def DV(h:LG E tD c (x9::x0::x1::x2::x3::x4::x5::x6::x7::x8::O) G):LG E tD c (x0::x1::x2::x3::x4::x5::x6::x7::x8::x9::O) G:=fun a w S st=>h a w S (st.own_map ML)
end
def eT{i:Nat}(h:xs.set i y=zs):zs.length=xs.length:=by rw [<-h,NQ]
section
def fR(hl:m=n)(s:Nat)(hs:cH G s=some (tV (aY l cap n)))(k:RG E ops tD rest O ((s,tV (aY l cap m))::G)):RG E ops tD rest O G:=by
 subst hl;exact fun a w S st=>k a w S (st.cons (st.facts.at_ s _ hs))
end
def pZ{s:Rp γ}{o1 o2:Nat}{g1:α->β}{g2:β->γ}(I:ro r o1 q g1)(M:ro q o2 s g2)(H:Nat.ble (o2+s.sz) q.sz=true:=by rfl):ro r (o1+o2) s (fun x=>g2 (g1 x)):=fun S cs x h=>by
 have h3:=M S _ _ (I S cs x h);have hb' :=ve H
 rwa [Cm,DX,uf,DY (by omega)]at h3
def Hr{s:Rp γ}{o1 o2:Nat}{g1:α->β}{u1:α->β->α}{u2:β->γ->β}(I:ro r o1 q g1)(k1:k7 r o1 q u1)(k2:k7 q o2 s u2)(H:Nat.ble (o2+s.sz) q.sz=true:=by rfl)(hc:Nat.ble (o1+q.sz) r.sz=true:=by rfl):
  k7 r (o1+o2) s (fun x y=>u1 x (u2 (g1 x) y)):=fun S cs x ds y h hy=>by
 have hb' :=ve H;have hc' :=ve hc;have hl:=r.len h;have h3:=k1 S cs x _ _ h (k2 S _ _ ds y (I S cs x h) hy);have e:cs.take (o1+o2)++ds++cs.drop (o1+o2+s.sz)=cs.take o1++(((cs.drop o1).take q.sz).take o2++ds++((cs.drop o1).take q.sz).drop (o2+s.sz))++cs.drop (o1+q.sz):=by
  rw [DX,DY (by omega),Cm,uf,List.take_add,show o1+(o2+s.sz)=o1+o2+s.sz from by omega];simp only [mj];congr 3;have e2:cs.drop (o1+q.sz)=(cs.drop (o1+o2+s.sz)).drop (q.sz-(o2+s.sz)):=by rw [uf];congr 1;omega
  rw [e2,A8]
 rw [e];exact h3
def dZ(P:Program)(f:FuncId)(ts:List Ty)(O1:List OE){ι:Type}(t:ι->Ty)(O2:ι->List OE):Prop:=
 ∀w S vs,nC w S->B5 S ts vs->dW 0 vz w S O1->Calls P f vs.toArray w fun en w' => ∃i v S',en= .returned v/\(t i).p S' v/\kh (fun k=> ∃f∈O1,f.fp k) w S w' S' /\nC w' S' /\dW 0 vz w' S' (O2 i)/\ ∀k,(∃f∈O2 i,f.fp k)->(∃f∈O1,f.fp k)\/w.heap.size<=k
def aa3(E:En)(O1:List OE){ι:Type}(t:ι->Ty)(O2:ι->List OE):Ending->World->Prop:=fun en w' =>
 ∃i v S',en= .returned v/\(t i).p S' v/\kh E.B E.w0 E.S0 w' S' /\nC w' S' /\dW 0 vz w' S' (O2 i)/\ ∀k,(∃f∈O2 i,f.fp k)->(∃f∈O1,f.fp k)\/E.w0.heap.size<=k
def Fo(O1:List OE):Nat->Prop:=fun k=> ∃f∈O1,f.fp k
def dZ.of{t:ι->Ty}(hf:P.funcs[f]? =some fn)(H:fn.body=some c)(hN:fn.ntmps=N)(hn:Nat.ble ts.length N=true)(h: ∀w0 S0,CG ⟨P,⟨N,[]⟩,Fo O1,w0,S0,none⟩ (bodyPost P fn (aa3 ⟨P,⟨N,[]⟩,Fo O1,w0,S0,none⟩ O1 t O2)) c O1 (xH 0 ts)):dZ P f ts O1 t O2:=by
 subst hN;intro w S vs hs hv ho;exact ny.1 (Kk (F:=fw none) (n:=0) hf H trivial (h w S _ w S ⟨kh.refl _ _ _,hs,ox ho fun f hf k hk=> .inr ⟨f,hf,hk⟩,qI hv _ (ve hn)⟩))
def WU{t:ι->Ty}{v:Value}(st:St E O G a w S)(hB:E.B=Fo O1)(i:ι)(hO:O=O2 i)(hv:(t i).p S v):aa3 E O1 t O2 (.returned v) w:=by
 subst hO;refine⟨i,v,S,rfl,hv,st.ext,st.sat,st.own.weak,fun k ⟨f,hf,hk⟩=>?_⟩;rcases(dW.mem st.own f hf).2 k hk with h|h
 ·exact .inr h
 ·rw [hB]at h;exact .inl h
section
variable{t:ι->Ty}
def nO{k:Nat}{u:Ty}(hr:fn.results= #[.tmp k])(i:ι)(hO:O=O2 i)(hk:cH G k=some u)(hu: ∀S v,u.p S v->(t i).p S v):
  AT ⟨P,⟨N,[]⟩,Fo O1,w0,S0,none⟩ (bodyPost P fn (aa3 ⟨P,⟨N,[]⟩,Fo O1,w0,S0,none⟩ O1 t O2)) .ret O G:=fun _ _ S st=>
 ⟨st.facts.defers,_,qU P fn k hr _ _,WU st rfl i hO (hu S _ (st.facts.at_ k u hk))⟩
end
def G8: ∀{O1 O2:List OE},dW base B w S O1->dW base B w S O2->(∀e∈O1,∀f∈O2,e.apart f)->dW base B w S (O1++O2)
 |[],_,_,h,_=>h
 |e::O1,O2,⟨I,M,h3⟩,h,ha=>⟨I,fun f hf=>(qR.1 hf).elim (M f) (ha e (md ..) f),G8 h3 h fun g hg f hf=>ha g (ma _ hg) f hf⟩
section
variable{ty:TypeId}
def St.turn{Or O2:List OE}(st:St E (O1++Or) G a w S)(V:kh (fun k=> ∃f∈O1,f.fp k) w S w' S')(hs:nC w' S')(ho:dW 0 vz w' S' O2)(hn: ∀k,(∃f∈O2,f.fp k)->(∃f∈O1,f.fp k)\/w.heap.size<=k):St E (O2++Or) G a w' S' :=by
 obtain⟨I,M,h3⟩:=rn st.own;have hbl:=st.base_le;refine⟨st.ext.step V (fun b ⟨f,hf,H⟩=>(dW.mem I f hf).2 b H),hs,G8 (ox ho fun f hf k hk=>?_) (M.ext V fun f hf b H ⟨g,hg,hgb⟩=>h3 g hg f hf b hgb H) (fun e he f hf b heb hfb=>?_),st.facts.mono V.keep⟩
 ·rcases hn k ⟨f,hf,hk⟩with⟨g,hg,hgk⟩|h
  ·exact(dW.mem I g hg).2 k hgk
  ·exact .inl (wP hbl h)
 ·rcases hn b ⟨e,he,heb⟩with⟨g,hg,hgb⟩|h
  ·exact h3 g hg f hf b hgb hfb
  ·have:=f.here (dW.mem M f hf).1 b hfb;omega
def AW{xs:List Operand}(O1 Or:List OE){t:ι->Ty}(hO:O=O1++Or)(hc:ak E.P f=true)(hs:dZ E.P f ts O1 t O2)(V:lI E.N G xs ts)(hd:Nat.blt d E.N.n=true)(k: ∀i,RG E ops tD rest (O2 i++Or) ((d,t i)::G)):
  RG E ops tD (⟨some d,.call ⟨.value (.func f),xs.toArray,ats⟩,ty,pos,after,none⟩::rest) O G:= .of rfl fun a w S st=>by
 subst hO;have hr:(execOp a.eval ⟨some d,.call ⟨.value (.func f),xs.toArray,ats⟩,ty,pos,after,none⟩).run E.P w= .ok (.enter f (xs.map a.eval).toArray) w:=by
  simp [execOp,resolve,Act.eval,Deferred.ofValue,invoke,gC hc]
 refine⟨fun c h=>(by cases h),?_⟩;rw [hr];refine(hs w S _ st.sat (V.tys st.facts) (rn st.own).1.weak).mono fun en w' ⟨i,v,S',he,hv,I,M,h3,h4⟩=>⟨_,he,?_⟩;exact k i _ _ S' ((st.turn I M h3 h4).put hd hv)
end
structure OI where
 h:Nat->Option Nat×Nat:=fun _=>(none,0)
 os:List (Option Nat×Nat):=[]
 fp:Nat->Prop:=vz
 v:Value:=undef
 ng:Nat->(Option Nat×Nat)×(Nat->Option Nat×Nat):=fun _=>((none,0),fun _=>(none,0))
 oss:Nat->List (Option Nat×Nat):=fun _=>[]
def tA:OI:={}
def oi(l:Option Nat)(c:Nat):OI:={h:=fun _=>(l,c)}
def EffOK(E:En)(O:List OE)(need:pC)(o:Oper)(post:OI->List OE)(t:OI->Ty):Prop:=
 ∀a w S,nC w S->dW E.base E.B w S O->du E.N S a need->E.base<=w.heap.size->
  Sa E.P o a w (fun a' w' => ∃v S' x,a' =a.put o.dst v/\kh (Fo O) w S w' S' /\nC w' S' /\dW E.base E.B w' S' (post x)/\(t x).p S' v)
variable{op:Op}{post:OI->List OE}{t' :TypeId}
section
variable{ty:TypeId}
def Vd{y:Operand}{u:OI->Ty}(ti:TI E.P aj sz bytes agg z)(hsz:r.sz=sz)(hz:Nat.beq z.length sz=true)(h0:Nat.blt 0 sz=true)(h128:Nat.ble bytes 2048=true)(J:E.P.underlying t=some (.slice aj))(V:be E.N G x (tV (aY l cap n)))(hy: ∀a w S,nC w S->du E.N S a G-> ∃news,Src E.P r.sz t' (a.eval y) ys.length news w/\xX r S news ys)(happ:app xs ys=some zs)(hu: ∀l' cap' w0 S,(pw mm r aj l' cap' zs).p w0 S->(u (oi l' cap')).p S (aY l' cap' zs.length))(hn:n=xs.length):
  EffOK E (pw mm r aj l cap xs::O) G ⟨some d,.call ⟨.builtin .append,#[x,y],#[t,t']⟩,ty,pos,after,g⟩ (fun i=>pw mm r aj (i.h 0).1 (i.h 0).2 zs::O) u:=fun a w S hs ho hf H=>by
 subst hn;have I:a.eval x=aY l cap xs.length:=V S a hf;obtain⟨news,M,h3⟩:=hy a w S hs hf;obtain⟨l',cap',w',S',hr,hext,hsat,hh,hnew⟩:=CD (ty:=ty) ti hsz hz h0 h128 J hs ho.1 H M h3 happ;have hrun:(execOp a.eval ⟨some d,.call ⟨.builtin .append,#[x,y],#[t,t']⟩,ty,pos,after,g⟩).run E.P w= .ok (.value (aY l' cap' zs.length)) w' :=by
  simp [execOp,resolve,invoke,builtin,I,hr]
 refine⟨fun c h=>(by cases h),?_⟩;rw [hrun];refine⟨_,S',oi l' cap',rfl,hext.more fun b H=>⟨_,md ..,H⟩,hsat,⟨hh,fun f hf b H hfb=>?_,ho.2.2.ext hext fun f hf b H hbl=>ho.2.1 f hf b hbl H⟩,hu l' cap' w' S' hh.1⟩;rcases hnew b H with h|h
 ·exact ho.2.1 f hf b h hfb
 ·have:=f.here (dW.mem ho.2.2 f hf).1 b hfb;omega
def zN{y:Operand}(ti:TI E.P aj sz bytes agg z)(hsz:r.sz=sz)(hz:Nat.beq z.length sz=true)(h0:Nat.blt 0 sz=true)(h128:Nat.ble bytes 2048=true)(J:E.P.underlying t=some (.slice aj))(ht' :t' =t)(V:be E.N G x (tO r l cap xs))(hy:be E.N G y (Q (gM r) ys))(happ:app xs ys=some zs):
  EffOK E (gh r aj l cap xs::O) G ⟨some d,.call ⟨.builtin .append,#[x,y],#[t,t']⟩,ty,pos,after,g⟩ (fun i=>gh r aj (i.h 0).1 (i.h 0).2 zs::O) (fun i=>tO r (i.h 0).1 (i.h 0).2 zs):=by
 subst ht';exact Vd ti hsz hz h0 h128 J (Cx V) (fun a w S hs hf=>Cy J hs (hy S a hf)) happ (fun _ _ _ _ h=>⟨rfl,vn h⟩) rfl
def YD{xs:List Operand}{u:OI->Ty}(hc:ak E.P f=true)(hs:fE E.P f ts mm r aj ys)(V:lI E.N G xs ts)(hu: ∀l cap w0 S,(pw mm r aj l cap ys).p w0 S->(u (oi l cap)).p S (aY l cap ys.length)):
  EffOK E O G ⟨some d,.call ⟨.value (.func f),xs.toArray,ats⟩,ty,pos,after,g⟩ (fun i=>pw mm r aj (i.h 0).1 (i.h 0).2 ys::O) u:=fun a w S hsat ho hf H=>by
 have hr:(execOp a.eval ⟨some d,.call ⟨.value (.func f),xs.toArray,ats⟩,ty,pos,after,g⟩).run E.P w= .ok (.enter f (xs.map a.eval).toArray) w:=by
  simp [execOp,resolve,Act.eval,Deferred.ofValue,invoke,gC hc]
 refine⟨fun c h=>(by cases h),?_⟩;rw [hr];exact(hs w S _ hsat (V.tys hf)).mono fun e w' ⟨l,cap,S',he,I,M,h3⟩=>⟨_,he,_,S',oi l cap,rfl,I.more fun _ H=>H.elim,M,vy ho I h3.1 (fun b H=>(h3.2 b H).resolve_right id) H,hu l cap w' S' h3.1⟩
def dW.turn{Or O2:List OE}(h:dW base B w S (O1++Or))(hbl:base<=w.heap.size)(V:kh (Fo O1) w S w' S')(ho:dW 0 vz w' S' O2)(hn: ∀k,(∃f∈O2,f.fp k)->(∃f∈O1,f.fp k)\/w.heap.size<=k):dW base B w' S' (O2++Or):=by
 obtain⟨I,M,h3⟩:=rn h;refine G8 (ox ho fun f hf k hk=>?_) (M.ext V fun f hf b H ⟨g,hg,hgb⟩=>h3 g hg f hf b hgb H) (fun e he f hf b heb hfb=>?_)
 ·rcases hn k ⟨f,hf,hk⟩with⟨g,hg,hgk⟩|h
  ·exact(dW.mem I g hg).2 k hgk
  ·exact .inl (wP hbl h)
 ·rcases hn b ⟨e,he,heb⟩with⟨g,hg,hgb⟩|h
  ·exact h3 g hg f hf b hgb hfb
  ·have:=f.here (dW.mem M f hf).1 b hfb;omega
def YC{xs:List Operand}(O1 Or:List OE){t:OI->Ty}{O2:OI->List OE}(hO:O=O1++Or)(hc:ak E.P f=true)(hs:dZ E.P f ts O1 t O2)(V:lI E.N G xs ts)(hpost: ∀i,O2 i++Or=post i):
  EffOK E O G ⟨some d,.call ⟨.value (.func f),xs.toArray,ats⟩,ty,pos,after,g⟩ post t:=fun a w S hsat ho hf H=>by
 subst hO;obtain rfl:(fun i=>O2 i++Or)=post:=funext hpost;have hr:(execOp a.eval ⟨some d,.call ⟨.value (.func f),xs.toArray,ats⟩,ty,pos,after,g⟩).run E.P w= .ok (.enter f (xs.map a.eval).toArray) w:=by
  simp [execOp,resolve,Act.eval,Deferred.ofValue,invoke,gC hc]
 refine⟨fun c h=>(by cases h),?_⟩;rw [hr];exact(hs w S _ hsat (V.tys hf) (rn ho).1.weak).mono fun en w' ⟨i,v,S',he,hv,I,M,h3,h4⟩=>⟨_,he,v,S',i,rfl,I.more fun b ⟨f,hf,H⟩=>⟨f,Ep _ hf,H⟩,M,dW.turn ho H I h3 h4,hv⟩
def FD{t:OI->Ty}(h:EffOK E O G ⟨some d,op,ty,pos,after,none⟩ post t)(hd:Nat.blt d E.N.n=true)(k: ∀x:OI,RG E ops tD rest (post x) ((d,t x)::G)):RG E ops tD (⟨some d,op,ty,pos,after,none⟩::rest) O G:= .of rfl fun a w S st=>
 s9 (fun a' w' ⟨v,S',x,ha,V,hs,ho,hv⟩=>by
  subst ha;exact k x _ _ S' ⟨st.ext.step V fun b ⟨f,hf,H⟩=>(dW.mem st.own f hf).2 b H,hs,ho,(st.facts.mono V.keep).put hd hv⟩) (h a w S st.sat st.own st.facts st.base_le)
end
def upd(σ:Nat->OI)(k:Nat)(x:OI):Nat->OI:=fun j=>bif Nat.beq j k then x else σ j
def Zh(σ:Nat->OI){k j:Nat}(x:OI)(h:j≠k):upd σ k x j=σ j:=by
 have:Nat.beq j k=false:=by
  cases H:Nat.beq j k with
  |false=>rfl
  |true=>exact absurd (zp H) h
 simp [upd,this]
structure NE where
 slot:Nat
 ty:(Nat->OI)->Ty
 src:Option Nat
def oy(E:En)(ops:Array Oper)(O:List OE)(need:pC)(o:Oper)(post:OI->List OE)(t:OI->Ty):Prop:=
 ∀a w S,nC w S->dW E.base E.B w S O->du E.N S a need->E.base<=w.heap.size->
  if Region.wanted o (yielded ops a.tmps)then Sa E.P o a w (fun a' w' => ∃v S' x,a' =a.put o.dst v/\kh (Fo O) w S w' S' /\nC w' S' /\dW E.base E.B w' S' (post x)/\(t x).p S' v)
  else∃x,dW E.base E.B w S (post x)/\(t x).p S undef
def cw{need:pC}{o:Oper}{t:OI->Ty}(hg:o.guard=none)(h:EffOK E O need o post t):oy E ops O need o post t:=fun a w S hs ho hf H=>by
 have:Region.wanted o (yielded ops a.tmps)=true:=by unfold Region.wanted;rw [hg]
 rw [this,bz rfl];exact h a w S hs ho hf H
def afW(es:List Bool)(i:Nat):Nat:=(es.take i).countP (· ==true)
structure DJE(E:En)(G:pC)(l:List Oper)(ts:List (OI->Ty))(Om:Nat->(Nat->OI)->List OE)(es:List Bool)(done:Array Bool)(a:Act)(w:World)(S:SH)(σ:Nat->OI)(c:Nat):Prop where
 ext:kh E.B E.w0 E.S0 w S
 sat:nC w S
 own:dW E.base E.B w S (Om c σ)
 size:a.tmps.size=E.N.n
 defers:a.defers=E.N.ds
 dsz:done.size=l.length
 down: ∀j o,l[j]? =some o->done.getD j false=true-> ∀e∈o.after,Region.binds .any e=true->done.getD e.on false=true
 old: ∀k t,cH G k=some t->(∀j o,l[j]? =some o->done.getD j false=true->o.dst≠some k)->t.p S (a.tmps.getD k undef)
 new: ∀j o d f,l[j]? =some o->done.getD j false=true->o.dst=some d->ts[j]? =some f->(f (σ j)).p S (a.tmps.getD d undef)
 chain: ∀k,es[k]? =some true->(done.getD k false=true↔afW es k<c)
section
variable{L:List Oper}{ts:List (OI->Ty)}{Om:Nat->(Nat->OI)->List OE}{es:List Bool}
end
section
variable{ty:TypeId}
def yq(J:E.P.underlying t=some (.slice e))(V:be E.N G x (tV (.slice none 0 0))):cu E O G ⟨dst,.call ⟨.builtin .len,#[x],#[t]⟩,ty,pos,after,g⟩ (Q (rI .i64) (0:Int)):=
 .of_pure fun a w S _ _ hf=>by
  have I:a.eval x= .slice none 0 0:=V S a hf;refine⟨.int .i64 0,?_,d7.2 rfl⟩;simp [execOp,resolve,invoke,builtin,Builtin.len_,oS J,I,goInt]
def yr(J:E.P.underlying t=some (.slice e))(V:be E.N G x (tV (.slice none 0 0))):cu E O G ⟨dst,.call ⟨.builtin .cap,#[x],#[t]⟩,ty,pos,after,g⟩ (Q (rI .i64) (0:Int)):=
 .of_pure fun a w S _ _ hf=>by
  have I:a.eval x= .slice none 0 0:=V S a hf;refine⟨.int .i64 0,?_,d7.2 rfl⟩;simp [execOp,resolve,invoke,builtin,Builtin.cap_,oS J,I,goInt]
def CL{hi:Operand}(J:E.P.underlying t=some (.slice aj))(ti:TI E.P aj sz bytes agg z)(V:be E.N G x (tV (.slice none 0 0)))(hhi:be E.N G hi (Q (rI k) (0:Int))):
  cu E O G ⟨dst,.slice t x none (some hi) none,ty,pos,after,g⟩ (tV (.slice none 0 0)):=
 .of_pure fun a w S _ _ hf=>by
  have I:a.eval x= .slice none 0 0:=V S a hf;have h6:=d7.1 (hhi S a hf);refine⟨.slice none 0 0,?_,rfl⟩;have H:=mZ (P:=E.P) (w:=w) (k:=k) (n:=(0:Int)) (y:=0) (code:= .sliceAcap) (by omega) (by omega);simp [execOp,Instr.sliceAt,I,h6,Instr.slice,oS J,Instr.sliceBounds,H,mZ (k:=k) (n:=(0:Int)) (y:=0) (by omega) (by omega),ti.sizeOf]
end
def rQ{α:Type}(n:Int)(z:α):Option (List α):=if 0<=n/\n<=68719476736 then some (List.replicate n.toNat z)else none
def Cr{n:Int}{z:α}(h:rQ n z=some zs): ∃m:Nat,n=m/\m<=68719476736/\zs=List.replicate m z:=by
 unfold rQ at h;split at h
 ·rename_i hc;exact⟨n.toNat,by omega,by omega,by simpa using h.symm⟩
 ·cases h
def AF{α:Type}{r:Rp α}{x:α}{z:List Value}(V: ∀S,r.rc S z x)(S:SH): ∀n:Nat,xX r S (List.replicate n z).flatten (List.replicate n x)
 |0=>rfl
 |n+1=>⟨z,_,by rw [List.replicate_succ,List.flatten_cons],V S,AF V S n⟩
def Lt(z:List Value):(List.range z.length).map (fun i=>z[i%z.length]?.getD default)=z:=by
 apply Kq;intro k;rcases wN k z.length with h|h
 ·rw [Co,List.getElem?_range h];simp [Nat.mod_eq_of_lt h,h]
 ·rw [Ki (by simpa using h),Ki h]
def sW(z:List Value)(n:Nat):(Builtin.zeroCells z.toArray n).toList=(List.replicate n z).flatten:=by
 unfold Builtin.zeroCells;simp
 induction n with
 |zero=>simp
 |succ n ih=>
  rw [List.replicate_succ,List.flatten_cons,<-ih,Nat.succ_mul,Nat.add_comm,List.range_add,Cn,Lt,vZ];congr 1;apply ET;intro i _;simp
def AK(z:List Value)(n sz:Nat)(h:z.length=sz):(madeCells z.toArray (n*sz)).toList=(List.replicate n z).flatten:=by
 subst h;have:=sW z n;unfold Builtin.zeroCells at this;unfold madeCells;simpa using this
section
variable{ty:TypeId}
def flat_len(h:z.length=sz)(n:Nat):(List.replicate n z).flatten.length=n*sz:=by
 simp [h]
def aa6{x:α}{n:Int}{y y' :Operand}(ti:TI E.P aj sz bytes agg z)(hsz:r.sz=sz)(hz:Nat.beq z.length sz=true)(h128:Nat.ble bytes 2048=true)(J:E.P.underlying t=some (.slice aj))(V: ∀S,r.rc S z x)(hy:be E.N G y (Q (rI k) n))(hy' :be E.N G y' (Q (rI k') n))(h:rQ n x=some zs):
  EffOK E O G ⟨some d,.makeSlice t y y',ty,pos,after,g⟩ (fun i=>eV r aj (i.h 0).1 (i.h 0).2 zs::O) (fun i=>tV (aY (i.h 0).1 (i.h 0).2 zs.length)):=fun a w S hs ho hf H=>by
 subst hsz;obtain⟨i,zv,hi,I,M,h3,h4⟩:=ti.get;obtain⟨m,rfl,hm,rfl⟩:=Cr h;have hyv:=d7.1 (hy S a hf);have hyv' :=d7.1 (hy' S a hf);have hz2:z.length=r.sz:=zp hz;have h128' :=ve h128;have hbytes:(i.bytes:Int)*(m:Int)<=281474976710656:=by
  have:i.bytes*m<=2048*68719476736:=NP (by omega) hm;have h5:((i.bytes*m:Nat):Int)<=281474976710656:=by omega
  rwa [Int.natCast_mul]at h5
 have hr:=run_make (P:=E.P) w t aj i zv J hi h3 k k' (m:Int) (m:Int) (by omega) (Int.le_refl _) hbytes (by omega);rw [zn,I,h4]at hr;obtain⟨he,hs',hno⟩:=jy (w:=w) (.cells (madeCells z.toArray (m*r.sz)) aj (0,0)) hs;have hrun:(execOp a.eval ⟨some d,.makeSlice t y y',ty,pos,after,g⟩).run E.P w= .ok (.value (.slice (some ⟨w.heap.size,0,none⟩) m m)) (w.alloc (.cells (madeCells z.toArray (m*r.sz)) aj (0,0))):=by
  simp [execOp,hyv,hyv',hr]
 refine⟨fun c h=>(by cases h),?_⟩;rw [hrun];have hfl:=flat_len hz2 m;refine⟨_,S,oi (some w.heap.size) m,rfl,he.more fun _ H=>H.elim,hs',vy ho he (e:=eV r aj (some w.heap.size) m (List.replicate m x)) ⟨(List.replicate m z).flatten,⟨_,Ck w _,by simp,by simp only [maxLen];omega,by rw [size_madeCells],?_⟩,AF V S m,fun b H=>by rw [<-vc H];exact hno⟩ (fun b H=>FU (vc H)) H,?_⟩
 ·rw [AK z m r.sz hz2,Ix];exact rO (by omega)
 ·show _=aY _ _ _;rw [Ix];rfl
def C5{x:α}{n:Int}{s y:Operand}{kn:IntKind}(ti:TI E.P aj sz bytes agg z)(hsz:r.sz=sz)(hz:Nat.beq z.length sz=true)(h0:Nat.blt 0 sz=true)(h128:Nat.ble bytes 2048=true)(J:E.P.underlying t=some (.slice aj))(ht' :E.P.underlying t' =some (.int kn))(V: ∀S,r.rc S z x)(hs' :be E.N G s (tV (.slice none 0 0)))(hy:be E.N G y (Q (rI k) n))(hn:0<n)(h:rQ n x=some zs):
  EffOK E O G ⟨some d,.call ⟨.builtin .append,#[s,y],#[t,t']⟩,ty,pos,after,g⟩ (fun i=>eV r aj (i.h 0).1 (i.h 0).2 zs::O) (fun i=>tV (aY (i.h 0).1 (i.h 0).2 zs.length)):=fun a w S hs ho hf H=>by
 subst hsz;obtain⟨i,zv,hi,I,M,h3,h4⟩:=ti.get;obtain⟨m,rfl,hm,rfl⟩:=Cr h;have hsv:a.eval s= .slice none 0 0:=hs' S a hf;have hyv:=d7.1 (hy S a hf);have hz2:z.length=r.sz:=zp hz;have h128' :=ve h128;have h0' :0<r.sz:=by simpa [Aq] using h0
 have hbytes:m*i.bytes<=281474976710656:=by
  have:m*i.bytes<=68719476736*2048:=NP hm (by omega);omega
 have hr:=Lib.run_append_nil_zeros (P:=E.P) w t t' ty aj i zv k kn J ht' hi h3 m (by omega) (by omega) (by omega) hbytes;have hge:=grownCap_ge w m 0 aj;have hle:=grownCap_le_maxLen w m 0 aj (by simp only [maxLen];omega);generalize grownCap w m 0 aj=cp at hr hge hle;obtain⟨C,hC⟩: ∃C,Builtin.zeroCells zv.cells m++Builtin.zeroCells zv.cells (cp-m)=C:=⟨_,rfl⟩;rw [hC]at hr;obtain⟨he0,hs0⟩:=TG (w:=w) hs;obtain⟨he,hs2,hno⟩:=jy (w:=w.drew) (.cells C aj (0,0)) hs0;have B_:kh vz w S (w.drew.alloc (.cells C aj (0,0))) S:=he0.trans he;have hrun:(execOp a.eval ⟨some d,.call ⟨.builtin .append,#[s,y],#[t,t']⟩,ty,pos,after,g⟩).run E.P w= .ok (.value (.slice (some ⟨w.heap.size,0,none⟩) m cp)) (w.drew.alloc (.cells C aj (0,0))):=by
  simp [execOp,resolve,invoke,builtin,hsv,hyv,hr]
 refine⟨fun c h=>(by cases h),?_⟩;rw [hrun];have hfl:=flat_len hz2 m;have hC1:C.toList=(List.replicate m z).flatten++(List.replicate (cp-m) z).flatten:=by
  rw [<-hC,Array.toList_append,h4,sW,sW]
 refine⟨_,S,oi (some w.heap.size) cp,rfl,B_.more fun _ H=>H.elim,hs2,vy ho B_ (e:=eV r aj (some w.heap.size) cp (List.replicate m x)) ⟨(List.replicate m z).flatten,⟨C,Ck w.drew _,by simpa using hge,hle,?_,?_⟩,AF V S m,fun b H=>by rw [<-vc H];exact hno⟩ (fun b H=>FU (vc H)) H,?_⟩
 ·have:C.toList.length=cp*r.sz:=by
   rw [hC1,lj,hfl,flat_len hz2,<-vg];congr 1;omega
  simpa using this
 ·rw [hC1,Ix,<-hfl,NO]
 ·show _=aY _ _ _;rw [Ix];rfl
def Pc{x:α}{y:Operand}(ti:TI E.P aj sz bytes agg z)(hsz:r.sz=sz)(hz:Nat.beq z.length sz=true)(J:E.P.underlying t=some (.slice aj))(V: ∀S,r.rc S z x)(hone:z.all (·.oneCell')=true)(hs:df xs lo (xs.length:Int)=some ys)(hy:be E.N G y (tV (sY sz l cap lo.toNat ys.length)))(hzs:xs.take lo.toNat++List.replicate ys.length x=zs)(k:RG E ops tD rest (eV r aj l cap zs::O) G):
  RG E ops tD (⟨none,.call ⟨.builtin .clear,#[y],#[t]⟩,ty,pos,after,none⟩::rest) (eV r aj l cap xs::O) G:= .of rfl fun a w S st=>by
 subst hsz;subst hzs;obtain⟨i,zv,hi,I,M,h3,h4⟩:=ti.get;have hyv:a.eval y=sY r.sz l cap lo.toNat ys.length:=hy S a st.facts;have hz2:z.length=r.sz:=zp hz;obtain⟨lo',m,rfl,hm,h5,h6,rfl⟩:=jp hs;have hm' :m=xs.length:=by omega
 subst hm';rw [DZ]at hyv k;rw [zn]at hyv k;by_cases hnil:xs.drop lo' =[]
 ·have hlo:xs.length<=lo' :=Jq.1 hnil;rw [hnil]at hyv k;have e1:xs.take lo' ++List.replicate ([]:List α).length x=xs:=by simp [rO hlo]
  rw [e1]at k;have hrun:(execOp a.eval ⟨none,.call ⟨.builtin .clear,#[y],#[t]⟩,ty,pos,after,none⟩).run E.P w= .ok (.value (.tuple #[])) w:=by
   cases l<;>simp [execOp,resolve,invoke,builtin,Builtin.clear_,oS J,hyv,sY]
  refine⟨fun c h=>(by cases h),?_⟩;rw [hrun];exact k _ _ S st
 ·obtain⟨⟨cells,hraw,hrc,hno⟩,hbase⟩:=st.own.1;have hlt:lo' <xs.length:=by
   rcases wN lo' xs.length with h|h
   ·exact h
   ·exact absurd (D0 h) hnil
  cases l with
  |none=>have:=hraw.1;omega
  |some b=>
   obtain⟨cur,g1,g2,g3,g4,g5⟩:=hraw;have hno' :S b=none:=hno b rfl;have hne: ¬(cap=lo'):=by omega
   have hld:(xs.drop lo').length=xs.length-lo' :=by simp
   have hfl:=flat_len hz2 (xs.length-lo');have hones: ∀u∈(List.replicate (xs.length-lo') z).flatten,u.oneCell' =true:=by
    intro u hu;obtain⟨q,hq,hu⟩:=List.mem_flatten.1 hu;rw [(List.mem_replicate.1 hq).2]at hu;exact mN.1 hone u hu
   have hmul:xs.length*r.sz<=cur.size:=by rw [g4];exact FR _ g2
   have hfit:lo' *r.sz+(xs.length-lo')*r.sz=xs.length*r.sz:=by rw [<-vg];congr 1;omega
   have hst:=run_storeCells_at E.P b (lo' *r.sz) aj (List.replicate (xs.length-lo') z).flatten 0 cur w g1 (by omega) hones;simp only [vY]at hst;have hrun:(execOp a.eval ⟨none,.call ⟨.builtin .clear,#[y],#[t]⟩,ty,pos,after,none⟩).run E.P w= .ok (.value (.tuple #[])) (w.setRow b (cur.toList.take (lo' *r.sz)++(List.replicate (xs.length-lo') z).flatten++cur.toList.drop (lo' *r.sz+(List.replicate (xs.length-lo') z).flatten.length)).toArray):=by
    have e1: ∃q,xs.length-lo' =q+1:=⟨xs.length-lo' -1,by omega⟩;obtain⟨q,hq⟩:=e1;have e2:a.eval y= .slice (some ⟨b,lo' *r.sz,none⟩) (q+1) (cap-lo'):=by rw [hyv,hld,hq];simp [sY,hne]
    rw [hq]at hst ⊢;simp [execOp,resolve,invoke,builtin,Builtin.clear_,oS J,e2,zeroValue,typeInfo,hi,h3,h4,sW,hst]
   refine⟨fun c h=>(by cases h),?_⟩;rw [hrun];have hset:=setRow_heap w b cur (cur.toList.take (lo' *r.sz)++(List.replicate (xs.length-lo') z).flatten++cur.toList.drop (lo' *r.sz+(List.replicate (xs.length-lo') z).flatten.length)).toArray aj _ g1;have hl2:(xs.take lo' ++List.replicate (xs.drop lo').length x).length=xs.length:=by simp;omega
   have hsp:xX r S (cells.take (lo' *r.sz)) (xs.take lo'):=by
    have e:xs=xs.take lo' ++xs.drop lo' :=(A8 _ _).symm;rw [e]at hrc;have:=(wn hrc).1
    rwa [show(xs.take lo').length=lo' from by simp;omega]at this
   have hcl:((cur.toList.take (lo' *r.sz)++(List.replicate (xs.length-lo') z).flatten++cur.toList.drop (lo' *r.sz+(List.replicate (xs.length-lo') z).flatten.length)).toArray).toList.take ((xs.take lo' ++List.replicate (xs.drop lo').length x).length*r.sz)=cells.take (lo' *r.sz)++(List.replicate (xs.length-lo') z).flatten:=by
    rw [hl2,<-g5,DX,DY (FR _ (by omega))];have hlen1:(cur.toList.take (lo' *r.sz)++(List.replicate (xs.length-lo') z).flatten).length=xs.length*r.sz:=by
     rw [lj,hfl,At,Iv,DY (by omega)];exact hfit
    rw [<-hlen1,NO]
   obtain⟨q1,q2,q3⟩:=uK (O:=O) st.sat (eV r aj (some b) cap xs) (eV r aj (some b) cap (xs.take lo' ++List.replicate (xs.drop lo').length x)) st.own (fun k=>⟨fun h=>(vc h).symm,fun h=>by rw [h];rfl⟩) (fun k=>⟨fun h=>(vc h).symm,fun h=>by rw [h];rfl⟩)
    (w' :=w.setRow b (cur.toList.take (lo' *r.sz)++(List.replicate (xs.length-lo') z).flatten++cur.toList.drop (lo' *r.sz+(List.replicate (xs.length-lo') z).flatten.length)).toArray) ⟨rfl,rfl,rfl,by simp [World.setRow],kG _⟩ (fun k hk=>setRow_other w b k _ hk)
    ⟨cells.take (lo' *r.sz)++(List.replicate (xs.length-lo') z).flatten,⟨_,hset,by rw [hl2];exact g2,g3,by simp only [NT,lj,At,Em,Iv];omega,hcl⟩,by rw [hld];exact Bs hsp (AF V S _),fun k hk=>by rw [<-vc hk];exact hno'⟩ hno'
   ·exact k _ _ S ⟨st.ext.step q1 (fun c hc=>hbase c (by rw [hc];rfl)),q2,q3,st.facts⟩
end
def tE{α:Type}(r:Rp α)(n:Nat):Rp (List α) where
 sz:=n*r.sz
 agg:=true
 rc:=fun S cs xs=>xs.length=n/\xX r S cs xs
 mono:=fun h ⟨I,M⟩=>⟨I,yV h M⟩
 len:=fun⟨I,M⟩=>by rw [s7 M,I]
 one:=fun⟨_,M⟩=>JO M
 sc:=fun h=>by cases h
section
section
variable{ty:TypeId}
def rf(J:E.P.underlying t=some (.array n e))(ti:TI E.P e sz bytes agg z)(hsz:r.sz=sz)(V:be E.N G x (bH (tE r n) xs))(hi:be E.N G ix (Q (rI k) i))(hy:cO xs i=some y):
  cu E O G ⟨dst,.indexAddr t x ix,ty,pos,after,g⟩ (bH r y):=
 .of_pure fun a w S _ _ hf=>by
  subst hsz;obtain⟨b,off,c,aj,fr,I,M,h3,h4⟩:=V S a hf;have h5:a.eval ix= .int k i:=d7.1 (hi S a hf);obtain⟨h0,hy'⟩:=m7 hy;have hlt:i.toNat<xs.length:=(qS.1 hy').1;have hc:0<=i/\i<(n:Int):=⟨h0,by omega⟩;refine⟨.pointer (some ⟨b,off+i.toNat*r.sz,none⟩),?_,b,_,c,aj,fr,rfl,M,?_⟩
  ·simp [execOp,I,h5,Instr.indexAt,asIntOf,oS J,Instr.sureAddr,hc,ti.sizeOf,nf]
  ·have h6:=Br h4 hy';rw [Cm,DX,uf]at h6;have hmul:i.toNat*r.sz+r.sz<=n*r.sz:=by rw [<-Nat.succ_mul];exact FR _ (by omega)
   have hmin:min r.sz ((tE r n).sz-i.toNat*r.sz)=r.sz:=by
    show min r.sz (n*r.sz-i.toNat*r.sz)=r.sz;omega
   rwa [hmin]at h6
def kg(J:E.P.underlying t=some (.array n e))(ti:TI E.P e sz bytes agg z)(hm:bx (tE r n) aj b xs∈O)(V:be E.N G x (tV (aE b 0)))(hi:be E.N G ix (Q (rI k) i))(hy:cO xs i=some y):
  cu E O G ⟨dst,.indexAddr t x ix,ty,pos,after,g⟩ (tV (aE b (i.toNat*sz))):=
 .of_pure fun a w S _ ho hf=>by
  have I:a.eval x=aE b 0:=V S a hf;have h5:a.eval ix= .int k i:=d7.1 (hi S a hf);obtain⟨⟨_,c,_,h4,_⟩,_⟩:=ho.mem _ hm;obtain⟨h0,hy'⟩:=m7 hy;have hlt:i.toNat<xs.length:=(qS.1 hy').1;have hc:0<=i/\i<(n:Int):=⟨h0,by omega⟩;refine⟨_,?_,rfl⟩;simp [execOp,I,h5,aE,Instr.indexAt,asIntOf,oS J,Instr.sureAddr,hc,ti.sizeOf,nf]
end
def acQ(hy:cO xs i=some y)(h:(tE r n).rc S cs xs):r.rc S ((cs.drop (i.toNat*r.sz)).take r.sz) y:=Br h.2 (m7 hy).2
def LD{p:Operand}{ty:TypeId}(ti:TI E.P U sz bytes agg z)(hsz:r.sz=sz)(hag:r.agg=agg)(hm:bx (tE r n) aj b xs∈O)(hy:cO xs i=some y)(hp:be E.N G p (tV (aE b (i.toNat*r.sz)))):cu E O G ⟨dst,.load U p,ty,pos,after,g⟩ (Q r y):=
 .of_pure fun a w S _ ho hf=>by
  have I:a.eval p=aE b (i.toNat*r.sz):=hp S a hf;obtain⟨⟨_,cur,h5,h6⟩,_⟩:=ho.mem _ hm;have h7:=acQ hy h6;refine⟨_,?_,_,rfl,h7⟩;simp [execOp,I,aE,Instr.loadAt,Instr.sureAddr,oD ti h5 hsz hag h7]
def YS{v:α}{p:Operand}{ty:TypeId}(ti:TI E.P U sz bytes agg z)(hsz:r.sz=sz)(hy:cO xs i=some y)(hz:xs.set i.toNat v=zs)(hp:be E.N G p (tV (aE b (i.toNat*r.sz))))(hv:be E.N G x (Q r v))(k:RG E ops tD rest (bx (tE r n) aj b zs::O) G):RG E ops tD (⟨none,.store U p x,ty,pos,after,none⟩::rest) (bx (tE r n) aj b xs::O) G:= .of rfl fun a w S st=>by
 subst hz;have I:a.eval p=aE b (i.toNat*r.sz):=hp S a st.facts;obtain⟨ds,M,h3⟩:=hv S a st.facts;obtain⟨⟨hno,cur,h5,h6⟩,_⟩:=st.own.1;obtain⟨h0,hy'⟩:=m7 hy;have hlt:i.toNat<xs.length:=(qS.1 hy').1;have hl:=s7 h6.2;simp only [Iv]at hl;have hmul:i.toNat*r.sz+r.sz<=xs.length*r.sz:=by rw [<-Nat.succ_mul];exact FR _ hlt
 obtain⟨w',hr,e1,e2,e3,e4,e5,e6⟩:=nq ti hsz h3 h5 (off:=i.toNat*r.sz) (by omega);have hrun:(execOp a.eval ⟨none,.store U p x,ty,pos,after,none⟩).run E.P w= .ok .skip w' :=by
  simp [execOp,I,M,Instr.storeAt,aE,Instr.sureAddr,hr]
 refine⟨fun c h=>(by cases h),?_⟩;rw [hrun];obtain⟨g1,g2,g3⟩:=uK (O:=O) st.sat (bx (tE r n) aj b xs) (bx (tE r n) aj b (xs.set i.toNat v)) st.own (fun _=>Ap) (fun _=>Ap) ⟨e1,e2,e3,e4.1,e4.2⟩ e6 ⟨hno,_,e5,by rw [NQ];exact h6.1,Gs h3 h6.2 hlt⟩ hno;exact k _ _ S ⟨st.ext.step g1 (fun c hc=>st.own.1.2 c hc),g2,g3,st.facts⟩
end
def EE{α:Type}{r:Rp α}{c:Value}{x:α}(h: ∀S,r.rc S [c] x)(S:SH): ∀n,xX r S (List.replicate n c) (List.replicate n x)
 |0=>rfl
 |n+1=>⟨[c],_,rfl,h S,EE h S n⟩
def ME{c:Value}{x:α}(n:Nat)(h: ∀S,r.rc S [c] x): ∀S,(tE r n).rc S (List.replicate n c) (List.replicate n x):=fun S=>⟨Ix,EE h S n⟩
def fits(n:Nat):Option Unit:=if n<=68719476736 then some ()else none
def gt0(n:Int):Option Unit:=if 0<n then some ()else none
def L0{n:Int}{u:Unit}(h:gt0 n=some u):0<n:=by
 unfold gt0 at h;split at h
 ·assumption
 ·cases h
def M0{e:Exit}(mm:Bool)(r:Rp α)(aj:TypeId)(h:AT E tD e (pw mm r aj none 0 []::O) G):AT E tD e O G:=fun a w S st=>h a w S (st.fresh mm r aj)
def DO{x:α}(h:df xs lo (xs.length:Int)=some ys)(hz:xs.take lo.toNat++List.replicate ys.length x=zs):zs.length=xs.length:=by
 obtain⟨l,m,rfl,hm,I,M,rfl⟩:=jp h;have hm' :m=xs.length:=by omega
 subst hm';rw [<-hz];simp;omega
def tC(n:FuncId)(cts:List Ty):Ty where
 p:=fun S v=> ∃cap:List Value,v= .func (.func n) #[] cap.toArray/\B5 S cts cap
 mono:=fun h ⟨cap,e,k⟩=>⟨cap,e,B5.mono h k⟩
section
section
variable{ty:TypeId}
def LB{fid:FuncId}{caps:List Operand}(hcap:lI E.N G caps cts):cu E O G ⟨dst,.makeFunc (.func fid) #[] caps.toArray,ty,pos,after,g⟩ (tC fid cts):=
 .of_pure fun a w S _ _ hf=>⟨.func (.func fid) #[] (caps.map a.eval).toArray,by simp [execOp,Instr.makeFunc],_,rfl,hcap.tys hf⟩
end
def AO{n:FuncId}{ty:TypeId}{fo:Operand}{xs:List Operand}(O1 Or:List OE){t:OI->Ty}{O2:OI->List OE}(hO:O=O1++Or)(hc:ak E.P n=true)(hs:dZ E.P n (ts++cts) O1 t O2)(hf:be E.N G fo (tC n cts))(V:lI E.N G xs ts)(hpost: ∀i,O2 i++Or=post i):
  EffOK E O G ⟨some d,.call ⟨.value fo,xs.toArray,ats⟩,ty,pos,after,g⟩ post t:=fun a w S hsat ho hF H=>by
 subst hO;obtain rfl:(fun i=>O2 i++Or)=post:=funext hpost;obtain⟨cap,e,hcap⟩:=hf S a hF;have hr:(execOp a.eval ⟨some d,.call ⟨.value fo,xs.toArray,ats⟩,ty,pos,after,g⟩).run E.P w= .ok (.enter n ((xs.map a.eval).toArray++cap.toArray)) w:=by
  simp [execOp,resolve,e,Deferred.ofValue,invoke,gC hc]
 refine⟨fun c h=>(by cases h),?_⟩;rw [hr];have e2:(xs.map a.eval).toArray++cap.toArray=((xs.map a.eval)++cap).toArray:=by simp
 rw [e2];exact(hs w S _ hsat ((V.tys hF).append hcap) (rn ho).1.weak).mono fun en w' ⟨i,v,S',he,hv,I,M,h3,h4⟩=>⟨_,he,v,S',i,rfl,I.more fun b ⟨f,hf,H⟩=>⟨f,Ep _ hf,H⟩,M,dW.turn ho H I h3 h4,hv⟩
end
def CY{α:Type}(xs:List α)(lo:Int)(n:Nat)(i:Int):Option α:=if 0<=i/\i<(n:Int)then cO xs (lo+i)else none
def wr(h:CY xs lo n i=some y):0<=i/\i<(n:Int)/\cO xs (lo+i)=some y:=by
 unfold CY at h;split at h
 ·rename_i hc;exact⟨hc.1,hc.2,h⟩
 ·cases h
def yk(h:df xs lo hi=some ys):0<=lo:=by
 obtain⟨l,m,rfl,_,_,_,_⟩:=jp h;omega
section
def pe(hm:pw mm r aj l cap xs∈O)(hs:df xs lo hi=some ys)(h:(l=none->ys.length=0)/\ys.length<=maxLen->RG E ops tD rest O G):RG E ops tD rest O G:=fun a w S st=>by
 refine h ?_ a w S st;obtain⟨cells,I,_⟩:=(st.own.mem _ hm).1;obtain⟨l',m,_,_,_,h8,rfl⟩:=jp hs;have hlen:((xs.take m).drop l').length<=xs.length:=by simp;omega
 cases l with
 |none=>have:=I.1;exact⟨fun _=>by omega,by omega⟩
 |some b=>obtain⟨cur,_,g2,g3,_⟩:=I;exact⟨fun h=>(by cases h),by omega⟩
section
variable{ty:TypeId}
def JR{lo:Nat}(J:E.P.underlying t=some (.slice e))(hv:l=none->n=0)(V:be E.N G x (tV (sY sz l cap lo n))):
  cu E O G ⟨dst,.call ⟨.builtin .len,#[x],#[t]⟩,ty,pos,after,g⟩ (Q (rI .i64) (n:Int)):=
 .of_pure fun a w S _ ho hf=>by
  have I:a.eval x=sY sz l cap lo n:=V S a hf;obtain⟨ad,c,h3⟩: ∃ad c,sY sz l cap lo n= .slice ad n c:=by
   cases l with
   |none=>rw [hv rfl];exact⟨none,0,rfl⟩
   |some b=>exact⟨_,_,rfl⟩
  refine⟨.int .i64 n,?_,d7.2 rfl⟩;simp [execOp,resolve,invoke,builtin,Builtin.len_,oS J,I,h3,goInt]
def re(J:E.P.underlying t=some (.slice e))(ti:TI E.P e sz bytes agg z)(hsz:r.sz=sz)(hm:pw mm r U l cap xs∈O)(hl0:0<=lo)(V:be E.N G x (tV (sY sz l cap lo.toNat n)))(hi' :be E.N G ix (Q (rI k) i))(hy:CY xs lo n i=some y):
  cu E O G ⟨dst,.indexAddr t x ix,ty,pos,after,g⟩ (tV (nc l ((lo+i).toNat*sz+0))):=
 .of_pure fun a w S _ ho hf=>by
  subst hsz;have I:a.eval x=sY r.sz l cap lo.toNat n:=V S a hf;have h3:a.eval ix= .int k i:=d7.1 (hi' S a hf);obtain⟨hi0,hin,hxi⟩:=wr hy;obtain⟨_,hx'⟩:=m7 hxi;obtain⟨b,cur,rfl,_,hle,_⟩:=wZ (ho.mem _ hm).1 hx';have hlt2:(lo+i).toNat<xs.length:=(qS.1 hx').1;have hne: ¬(cap=lo.toNat):=by omega
  refine⟨_,?_,rfl⟩;have hc:0<=i/\i<(n:Int):=⟨hi0,hin⟩;have e1:(lo+i).toNat=lo.toNat+i.toNat:=by omega
  simp [execOp,I,h3,sY,hne,Instr.indexAt,asIntOf,oS J,hc,ti.sizeOf,nf,nc,aE,e1,vg]
end
end
section
variable{ty:TypeId}{l:List Oper}
end
def og3 [Inhabited α]{c b:Bool}{x:Option α}{k:α->Option β}{d:Option β}{r:β}(h:c=true->(if b=true then x.bind k else d)=some r): ∃y,((c&&b)=true->x=some y/\k y=some r)/\(c=true->b=false->d=some r):=by
 cases c with
 |false=>exact⟨default,fun e=>(by cases e),fun e=>(by cases e)⟩
 |true=>
  obtain⟨y,I,M⟩:=og (h rfl);exact⟨y,fun e=>I e,fun _ e=>M e⟩
def m5{κ β:Type} [DecidableEq κ]:List (κ×β)->κ->Option β
 |[],_=>none
 |p::m,k=>if p.1=k then some p.2 else m5 m k
def dO{κ β:Type} [DecidableEq κ]:List (κ×β)->κ->β->List (κ×β)
 |[],k,v=>[(k,v)]
 |p::m,k,v=>if p.1=k then(k,v)::m else p::dO m k v
def MQ{κ:Type}(P:Program)(kt:TypeId)(kv:κ->Value):Prop:= ∃d,P.underlying kt=some d/\(∀a,MapKept.IsKey d (kv a))/\ ∀a b,kv a=kv b->a=b
def kvI(k:IntKind)(n:Int):Value:= .int k n
def eU{kt:TypeId}(h:P.underlying kt=some (.int k)):MQ P kt (kvI k):=⟨_,h,fun _=>rfl,fun a b e=>by injection e⟩
structure MV(β:Type) where
 p:World->SH->β->Option Nat×Nat->Value->Prop
 here: ∀{w S y o v},p w S y o v-> ∀j,o.1=some j->j<w.heap.size
 kept: ∀{C w w' S S' y o v},p w S y o v->kh C w S w' S' ->(∀j,o.1=some j-> ¬C j)->p w' S' y o v
def CO{β:Type}(ty:β->Ty):MV β where
 p:=fun _ S y o v=>o.1=none/\(ty y).p S v
 here:=fun h j hj=>by rw [h.1]at hj;cases hj
 kept:=fun h k _=>⟨h.1,(ty _).mono k.keep h.2⟩
variable{hx:TypeId}
section
variable{κ:Type} [DecidableEq κ]{hx:MV β}{kv:κ->Value}{d:TypeDesc}{k:κ}
def Ci(hx:MV β)(kv:κ->Value)(w:World)(S:SH)(h:Option κ):List MapEntry->List (Option Nat×Nat)->List (κ×β)->Prop
 |[],[],[]=>True
 |e::es,o::os,q::m=>e.key=kv q.1/\(if h=some q.1 then o.1=none else hx.p w S q.2 o e.val)/\(∀o' ∈os,∀j,o.1=some j->o'.1≠some j)/\(∀p∈m,p.1≠q.1)/\Ci hx kv w S h es os m
 |_,_,_=>False
def OP{h:Option κ}: ∀{es:List MapEntry} {os:List (Option Nat×Nat)} {m:List (κ×β)},Ci hx kv w S h es os m-> ∀o∈os,∀j,o.1=some j->j<w.heap.size
 |[],[],[],_,o,ho,_,_=>by cases ho
 |e::es,o::os,q::m,⟨_,M,_,_,h5⟩,o',ho,j,hj=>by
  rcases iW.1 ho with rfl|ho
  ·split at M
   ·rw [M]at hj;cases hj
   ·exact hx.here M j hj
  ·exact OP h5 o' ho j hj
def GU{C:Nat->Prop}(k:kh C w S w' S'){h:Option κ}: ∀{es:List MapEntry} {os:List (Option Nat×Nat)} {m:List (κ×β)},Ci hx kv w S h es os m->(∀o∈os,∀j,o.1=some j-> ¬C j)->Ci hx kv w' S' h es os m
 |[],[],[],_,_=>trivial
 |e::es,o::os,q::m,⟨I,M,h3,h4,h5⟩,hC=>⟨I,by
  split
  ·rename_i hh;rw [bz hh]at M;exact M
  ·rename_i hh;rw [aR hh]at M;exact hx.kept M k (hC o (md ..)),h3,h4,GU k h5 fun o' ho=>hC o' (ma _ ho)⟩
def Je{h:Option κ}: ∀{es:List MapEntry} {os:List (Option Nat×Nat)} {m:List (κ×β)},Ci hx kv w S h es os m->(∀p∈m,h≠some p.1)->Ci hx kv w S none es os m
 |[],[],[],_,_=>trivial
 |e::es,o::os,q::m,⟨I,M,h3,h4,h5⟩,hk=>⟨I,by
  rw [aR (hk q (md ..))]at M;rw [aR (by simp)];exact M,h3,h4,Je h5 fun p hp=>hk p (ma _ hp)⟩
def xT(hd: ∀a,MapKept.IsKey d (kv a))(hi: ∀a b,kv a=kv b->a=b)(a b:κ):Instr.sameNow d (kv a) (kv b)=some (decide (a=b)):=by
 obtain⟨r,I,M⟩:=MapKept.sameNow_of_keys (hd a) (hd b);rw [I];by_cases h:a=b
 ·subst h;rw [M.2 rfl];simp
 ·rw [El h]
  cases r with
  |false=>rfl
  |true=>exact absurd (hi _ _ (M.1 rfl)) h
def wz(hd: ∀a,MapKept.IsKey d (kv a))(hi: ∀a b,kv a=kv b->a=b): ∀{es:List MapEntry} {os:List (Option Nat×Nat)} {m:List (κ×β)} (i:Nat),Ci hx kv w S none es os m->
  ∃os',(∀x∈os',x∈os\/x.1=none)/\Ci hx kv w S (some k) es os' m/\
   ((m5 m k=none/\Instr.findNow d (kv k) es i=some none)\/ ∃(y:β) (o:Option Nat×Nat) (e:MapEntry) (j:Nat),m5 m k=some y/\o∈os/\hx.p w S y o e.val/\Instr.findNow d (kv k) es i=some (some (j,e.val))/\ ∀x∈os',∀q,o.1=some q->x.1≠some q)
 |[],[],[],i,_=>⟨[],fun x V=>(by cases V),trivial,.inl ⟨rfl,rfl⟩⟩
 |e::es,o::os,q::m,i,⟨I,M,h3,h4,h5⟩=>by
  rw [aR (by simp)]at M;by_cases hk:q.1=k
  ·refine⟨(none,0)::os,fun x V=>?_,⟨I,by rw [bz (by rw [hk])],fun _ _ _ hj=>(by cases hj),h4,?_⟩,.inr ⟨q.2,o,e,i,by unfold m5;rw [bz hk],md ..,M,?_,fun x V j hj=>?_⟩⟩
   ·rcases iW.1 V with rfl|V
    ·exact .inr rfl
    ·exact .inl (ma _ V)
   ·have: ∀{es:List MapEntry} {os:List (Option Nat×Nat)} {m:List (κ×β)},Ci hx kv w S none es os m->(∀p∈m,p.1≠k)->Ci hx kv w S (some k) es os m:=by
     intro es
     induction es with
     |nil=>intro os m h _;cases os<;>cases m<;>first|trivial|exact h.elim
     |cons e es ih=>
      intro os m h hm
      cases os with
      |nil=>cases m<;>exact h.elim
      |cons o os=>
       cases m with
       |nil=>exact h.elim
       |cons q m=>
        obtain⟨g1,g2,g3,g4,g5⟩:=h;rw [aR (by simp)]at g2;exact⟨g1,by rw [aR (fun e=>hm q (md ..) (vc e).symm)];exact g2,g3,g4,ih g5 fun p hp=>hm p (ma _ hp)⟩
    exact this h5 (fun p hp=>by rw [<-hk];exact h4 p hp)
   ·unfold Instr.findNow;rw [I,xT hd hi,hk,Cl rfl]
   ·rcases iW.1 V with rfl|V
    ·exact fun e=>by cases e
    ·exact h3 x V j hj
  ·obtain⟨os',g1,g2,g3⟩:=wz hd hi (i+1) h5;refine⟨o::os',fun x V=>?_,⟨I,by rw [aR (fun e=>hk (vc e).symm)];exact M,fun o' ho' j hj=>?_,h4,g2⟩,?_⟩
   ·rcases iW.1 V with rfl|V
    ·exact .inl (md ..)
    ·exact(g1 x V).imp (ma _) id
   ·rcases g1 o' ho' with h|h
    ·exact h3 o' h j hj
    ·rw [h];exact fun e=>by cases e
   ·have hf:Instr.findNow d (kv k) (e::es) i=Instr.findNow d (kv k) es (i+1):=by
     conv=>lhs;unfold Instr.findNow
     rw [I,xT hd hi,El (fun e=>hk e.symm)]
    have hm:m5 (q::m) k=m5 m k:=by conv=>lhs;unfold m5;rw [aR hk]
    rw [hf,hm];refine g3.imp id fun⟨y,o1,e1,j,f1,f2,f3,f4,f5⟩=>⟨y,o1,e1,j,f1,ma _ f2,f3,f4,fun x V q hq=>?_⟩;rcases iW.1 V with rfl|V
    ·exact fun e=>h3 o1 f2 q e hq
    ·exact f5 x V q hq
def So(x:α)(xs:List α)(j:Nat)(f:α->α):(x::xs).modify (j+1) f=x::xs.modify j f:=by simp [List.modify_succ_cons]
def OQ(hd: ∀a,MapKept.IsKey d (kv a))(hi: ∀a b,kv a=kv b->a=b){y:β}{o:Option Nat×Nat}{v:Value}{born:Nat}(hv:hx.p w S y o v): ∀{es:List MapEntry} {os:List (Option Nat×Nat)} {m:List (κ×β)} (i:Nat),Ci hx kv w S (some k) es os m->(∀o' ∈os,∀j,o.1=some j->o'.1≠some j)->
    ∃os',(∀x∈os',x∈os\/x=o)/\
      ((∃(j:Nat) (e:MapEntry),Instr.findNow d (kv k) es i=some (some (i+j,e.val))/\es[j]? =some e/\e.key=kv k/\Ci hx kv w S none (es.modify j fun e=>{e with key:=kv k,val:=v}) os' (dO m k y))\/
        (Instr.findNow d (kv k) es i=some none/\Ci hx kv w S none (es++[⟨kv k,v,born⟩]) os' (dO m k y)))
  |[],[],[],i,_,_=>⟨[o],fun x V=> .inr (mf.1 V),.inr ⟨rfl,⟨rfl,by rw [aR (by simp)];exact hv,fun _ h=>(by cases h),fun _ h=>(by cases h),trivial⟩⟩⟩
  |e::es,o1::os,q::m,i,⟨I,M,h3,h4,h5⟩,ha=>by
    by_cases hk:q.1=k
    · refine⟨o::os,fun x V=>?_,.inl ⟨0,e,?_,rfl,by rw [I,hk],?_⟩⟩
      · rcases iW.1 V with rfl|V
        · exact .inr rfl
        · exact .inl (ma _ V)
      · unfold Instr.findNow;rw [I,xT hd hi,hk,Cl rfl];rfl
      · unfold dO;rw [bz hk,List.modify_zero_cons];exact⟨rfl,by rw [aR (by simp)];exact hv,fun o' ho' =>ha o' (ma _ ho'),fun p hp=>by rw [<-hk];exact h4 p hp,
          Je h5 fun p hp e=>h4 p hp (by rw [hk];exact(vc e).symm)⟩
    · obtain⟨os',g1,g2⟩:=OQ hd hi (born:=born) hv (i+1) h5 fun o' ho' =>ha o' (ma _ ho');rw [aR (fun e=>hk (vc e).symm)]at M;have hf:Instr.findNow d (kv k) (e::es) i=Instr.findNow d (kv k) es (i+1):=by
        conv=>lhs;unfold Instr.findNow
        rw [I,xT hd hi,El (fun e=>hk e.symm)]
      have hm:dO (q::m) k y=q::dO m k y:=by conv=>lhs;unfold dO;rw [aR hk]
      have hap: ∀o' ∈os',∀j,o1.1=some j->o'.1≠some j:=fun o' ho' j hj=>by
        rcases g1 o' ho' with h|rfl
        · exact h3 o' h j hj
        · exact fun e=>ha o1 (md ..) j e hj
      have hne: ∀p∈dO m k y,p.1≠q.1:=by
        have: ∀m:List (κ×β),(∀p∈m,p.1≠q.1)-> ∀p∈dO m k y,p.1≠q.1:=by
          intro m
          induction m with
          |nil=>intro _ p hp;rw [mf.1 hp];exact fun e=>hk e.symm
          |cons p0 m ih=>
            intro hm p hp;unfold dO at hp;split at hp
            · rcases iW.1 hp with rfl|hp
              · exact fun e=>hk e.symm
              · exact hm p (ma _ hp)
            · rcases iW.1 hp with rfl|hp
              · exact hm _ (md ..)
              · exact ih (fun p hp=>hm p (ma _ hp)) p hp
        exact this m h4
      rw [hf,hm];refine⟨o1::os',fun x V=>?_,g2.imp (fun⟨j,e',f1,f2,f3,f4⟩=>⟨j+1,e',by rw [f1];congr 3;omega,by simpa using f2,f3,?_⟩) fun⟨f1,f2⟩=>⟨f1,?_⟩⟩
      · rcases iW.1 V with rfl|V
        · exact .inl (md ..)
        · exact(g1 x V).imp (ma _) id
      · rw [So];exact⟨I,by rw [aR (by simp)];exact M,hap,hne,f4⟩
      · exact⟨I,by rw [aR (by simp)];exact M,hap,hne,f2⟩
def OO{h:Option κ}: ∀{es:List MapEntry} {os:List (Option Nat×Nat)} {m:List (κ×β)},Ci hx kv w S h es os m-> ∀x∈es,∃q∈m,x.key=kv q.1
 |[],[],[],_,x,V=>by cases V
 |e::es,o::os,q::m,⟨I,_,_,_,h5⟩,x,V=>by
  rcases iW.1 V with rfl|V
  ·exact⟨q,md ..,I⟩
  ·obtain⟨q',g1,g2⟩:=OO h5 x V;exact⟨q',ma _ g1,g2⟩
def Yv(hd: ∀a,MapKept.IsKey d (kv a)){h:Option κ}{es:List MapEntry}{os:List (Option Nat×Nat)}{m:List (κ×β)}{i:Nat}(h4:Ci hx kv w S h es os m)(g1:Instr.findNow d (kv k) es i=some none){x:MapEntry}(V:x∈es):x.key≠kv k:=by
 rcases MapKept.findNow_spec (hd k) es i (fun y hy=>by obtain⟨q,_,e⟩:=OO h4 y hy;rw [e];exact hd _)with⟨_,M⟩|⟨j,e,M,_⟩
 ·exact M x V
 ·rw [g1]at M;cases M
def tF(hx:MV β)(kv:κ->Value)(b:Nat)(h:Option κ)(os:List (Option Nat×Nat))(m:List (κ×β)):OE where
 fp:=fun j=>j=b\/ ∃o∈os,o.1=some j
 p:=fun w S=>S b=none/\(∀o∈os,o.1≠some b)/\ ∃es clock,w.heap[b]? =some (.map es clock)/\Ci hx kv w S h es.toList os m/\MapKept.Stamped es clock
 here:=by
  intro w S ⟨_,_,es,clock,h3,h4,_⟩ j hj;rcases hj with rfl|⟨o,ho,hj⟩
  ·exact(Ba.1 h3).1
  ·exact OP h4 o ho j hj
 kept:=by
  intro C w w' S S' ⟨I,M,es,clock,h3,h4,hst⟩ k hC;have hlt:=(Ba.1 h3).1;exact⟨by rw [k.old b hlt (hC b (.inl rfl))];exact I,M,es,clock,by rw [k.heap b hlt (hC b (.inl rfl))];exact h3,GU k h4 (fun o ho j hj=>hC j (.inr ⟨o,ho,hj⟩)),hst⟩
def uv(b:Nat):Value:= .map (some b)
end
section
variable{κ:Type} [DecidableEq κ]{hx:MV β}{kv:κ->Value}{os:List (Option Nat×Nat)}{m:List (κ×β)}{k:κ}{kt et:TypeId}{i v:Operand}{dst:Option Nat}{ty:TypeId}
def Pg(N:Fr)(G:pC)(x:Operand)(u:Value):Prop:= ∀S a,du N S a G->a.eval x=u
def pD{N:Fr}{q:IntKind}{n:Int}(h:be N G x (Q (rI q) n)):Pg N G x (kvI q n):=fun S a hf=>d7.1 (h S a hf)
def ZV(P:Program)(aj:TypeId)(z:Value):Prop:=(P.info? aj).bind (·.zero)=some z
def ZV.run{z:Value}(h:ZV P aj z)(w:World):(zeroValue aj).run P w= .ok z w:=by
 unfold ZV at h
 cases hi:P.info? aj with
 |none=>rw [hi]at h;cases h
 |some i=>
  rw [hi]at h;have h' :i.zero=some z:=h;simp [zeroValue,typeInfo,hi,h']
def zf(hx:MV β)(kv:κ->Value)(hd:Nat.blt d E.N.n=true)(k: ∀b,RG E ops tD rest (tF hx kv b none [] []::O) ((d,tV (uv b))::G)):
  RG E ops tD (⟨some d,.makeMap t none,ty,pos,after,none⟩::rest) O G:= .of rfl fun a w S st=>by
 obtain⟨he,hs',hno⟩:=jy (w:=w) (.map #[] 0) st.sat;have hrun:(execOp a.eval ⟨some d,.makeMap t none,ty,pos,after,none⟩).run E.P w= .ok (.value (uv w.heap.size)) (w.alloc (.map #[] 0)):=by
  simp [execOp,Instr.makeMap,uv]
 refine⟨fun c h=>(by cases h),?_⟩;rw [hrun];exact k w.heap.size _ _ S ⟨st.ext.step0 he,hs',vy st.own he ⟨hno,fun _ h=>(by cases h),#[],0,Ck w _,trivial,MapKept.stamped_empty 0⟩ (fun b H=>by
  rcases H with rfl|⟨_,h,_⟩
  ·exact kG _
  ·cases h) st.base_le,st.facts.put hd rfl⟩
def q7{kk:Value}{es:Array MapEntry}{clock:Nat}{q:TypeDesc}{z:Value}{u:Option (Nat×Value)}(hm:P.underlying t=some (.map kt et))(hq:P.underlying kt=some q)(hk:MapKept.IsKey q kk)(H:w.heap[b]? =some (.map es clock))(hz:ZV P et z)(hf:Instr.findNow q kk es.toList 0=some u)(c:Bool):(Instr.lookup t (uv b) kk c).run P w= .ok (if c then .tuple #[(u.map (·.2)).getD z,.bool u.isSome]else(u.map (·.2)).getD z) w:=by
 cases u with
 |none=>simp [Instr.lookup,uv,oS hm,VB H,VA hq hk,MapKept.run_findKey hq hf,hz.run,Result.andThen]
 |some r=>simp [Instr.lookup,uv,oS hm,VB H,VA hq hk,MapKept.run_findKey hq hf,Result.andThen]
def LC{γ:β->Ty}{z:β}{zv:Value}(hm:E.P.underlying t=some (.map kt et))(hk:MQ E.P kt kv)(hz:ZV E.P et zv)(hzt: ∀S,(γ z).p S zv)(hmem:tF (CO γ) kv b none os m∈O)(V:be E.N G x (tV (uv b)))(hi:Pg E.N G i (kv k)):
  cu E O G ⟨dst,.lookup t x i false,ty,pos,after,g⟩ (γ ((m5 m k).getD z)):= .of_pure fun a w S hs ho hf=>by
 obtain⟨⟨_,_,es,clock,h3,h4,_⟩,_⟩:=dW.mem ho _ hmem;obtain⟨q,hq,hd,hinj⟩:=hk;have I:a.eval x=uv b:=V S a hf;have M:a.eval i=kv k:=hi S a hf;obtain⟨_,_,_,h5⟩:=wz hd hinj (k:=k) 0 h4;rcases h5 with⟨g1,g2⟩|⟨y,o,e,j,g1,g2,g3,g4,g5⟩
 ·refine⟨zv,by simp [execOp,I,M,q7 hm hq (hd k) h3 hz g2],by rw [g1];exact hzt S⟩
 ·refine⟨e.val,by simp [execOp,I,M,q7 hm hq (hd k) h3 hz g4],by rw [g1];exact g3.2⟩
def Sc{γ:β->Ty}{z:β}{zv:Value}(hm:E.P.underlying t=some (.map kt et))(hk:MQ E.P kt kv)(hz:ZV E.P et zv)(hzt: ∀S,(γ z).p S zv)(hmem:tF (CO γ) kv b none os m∈O)(V:be E.N G x (tV (uv b)))(hi:Pg E.N G i (kv k)):
  cu E O G ⟨dst,.lookup t x i true,ty,pos,after,g⟩ (tT [γ ((m5 m k).getD z),Q rB (m5 m k).isSome]):= .of_pure fun a w S hs ho hf=>by
 obtain⟨⟨_,_,es,clock,h3,h4,_⟩,_⟩:=dW.mem ho _ hmem;obtain⟨q,hq,hd,hinj⟩:=hk;have I:a.eval x=uv b:=V S a hf;have M:a.eval i=kv k:=hi S a hf;obtain⟨_,_,_,h5⟩:=wz hd hinj (k:=k) 0 h4;rcases h5 with⟨g1,g2⟩|⟨y,o,e,j,g1,g2,g3,g4,g5⟩
 ·refine⟨.tuple #[zv,.bool false],by simp [execOp,I,M,q7 hm hq (hd k) h3 hz g2],[zv,.bool false],rfl,by rw [g1];exact hzt S,kY.2 (by rw [g1];rfl),trivial⟩
 ·refine⟨.tuple #[e.val,.bool true],by simp [execOp,I,M,q7 hm hq (hd k) h3 hz g4],[e.val,.bool true],rfl,by rw [g1];exact g3.2,kY.2 (by rw [g1];rfl),trivial⟩
def Hs{kk:Value}{es:Array MapEntry}{clock:Nat}{q:TypeDesc}{val:Value}(hm:P.underlying t=some (.map kt et))(hq:P.underlying kt=some q)(hk:MapKept.IsKey q kk)(H:w.heap[b]? =some (.map es clock)):
  (Instr.findNow q kk es.toList 0=some none->(Instr.mapUpdate t (uv b) kk val).run P w= .ok () {w with heap:=w.heap.setIfInBounds b (.map (es.push ⟨kk,val,clock⟩) (clock+1))})/\
  (∀j e,Instr.findNow q kk es.toList 0=some (some (j,e))->(∀e',es.toList[j]? =some e' ->e'.key=kk)->(∃e',es.toList[j]? =some e')->(Instr.mapUpdate t (uv b) kk val).run P w= .ok () {w with heap:=w.heap.setIfInBounds b (.map (es.modify j fun e=>{e with key:=kk,val:=val}) clock)}):=by
 refine⟨fun hf=>?_,fun j e hf hj he=>?_⟩
 ·simp [Instr.mapUpdate,uv,oS hm,VB H,VA hq hk,MapKept.run_findKey hq hf,MapKept.run_setObj_map _ H,Result.andThen]
 ·obtain⟨e',he'⟩:=he;have I:=hj e' he';have M:es[j]? =some e' :=by simpa using he'
  simp [Instr.mapUpdate,uv,oS hm,VB H,VA hq hk,MapKept.run_findKey hq hf,MapKept.run_setObj_map _ H,Result.andThen,M,I,MapKept.run_keyThatStays hk]
def Oy{y:β}{o:Option Nat×Nat}{val:Value}(hs:nC w S)(hm:E.P.underlying t=some (.map kt et))(hk:MQ E.P kt kv)(hp:(tF hx kv b (some k) os m).p w S)(hv:hx.p w S y o val)(hob:o.1≠some b)(hap: ∀o' ∈os,∀j,o.1=some j->o'.1≠some j):
  ∃w' os',(Instr.mapUpdate t (uv b) (kv k) val).run E.P w= .ok () w' /\kh (fun j=>j=b) w S w' S/\nC w' S/\(tF hx kv b none os' (dO m k y)).p w' S/\(∀j,(tF hx kv b none os' (dO m k y)).fp j->(tF hx kv b (some k) os m).fp j\/o.1=some j):=by
 obtain⟨hno,hnb,es,clock,h3,h4,hst⟩:=hp;obtain⟨q,hq,hdk,hinj⟩:=hk;obtain⟨os',p1,p2⟩:=OQ hdk hinj (born:=clock) hv 0 h4 hap;have hnb' : ∀o' ∈os',o'.1≠some b:=fun o' ho' =>by
  rcases p1 o' ho' with h|rfl
  ·exact hnb o' h
  ·exact hob
 have hfp: ∀j,(j=b\/ ∃o∈os',o.1=some j)->(j=b\/ ∃o∈os,o.1=some j)\/o.1=some j:=fun j hj=>by
  rcases hj with h|⟨o',ho',e⟩
  ·exact .inl (.inl h)
  ·rcases p1 o' ho' with h|rfl
   ·exact .inl (.inr ⟨o',h,e⟩)
   ·exact .inr e
 have hw: ∀X:Obj,kh (fun j=>j=b) w S {w with heap:=w.heap.setIfInBounds b X} S/\nC {w with heap:=w.heap.setIfInBounds b X} S/\({w with heap:=w.heap.setIfInBounds b X}:World).heap[b]? =some X:=fun X=>
  ⟨⟨rfl,rfl,rfl,kG _,by simp,fun j _ hj=>(MapKept.heap_set (o' :=X) h3).2 j hj,SH.le_refl _,fun _ _ _=>rfl⟩,hs.same fun j o hj=>(MapKept.heap_set (o' :=X) h3).2 j (fun e=>by subst e;rw [hno]at hj;cases hj),(MapKept.heap_set h3).1⟩
 obtain⟨r1,r2⟩:=Hs (val:=val) hm hq (hdk k) h3;rcases p2 with⟨j,e,g1,g2,g3,g4⟩|⟨g1,g2⟩
 ·rw [u9]at g1;obtain⟨x1,x2,x3⟩:=hw (.map (es.modify j fun e=>{e with key:=kv k,val:=val}) clock);refine⟨_,os',r2 j _ g1 (fun e' he' =>by rw [g2]at he';cases he';exact g3) ⟨_,g2⟩,x1,x2,⟨hno,hnb',_,_,x3,?_,MapKept.stamped_modify hst j _ (fun _ _=>rfl) (fun e' _ he' =>by rw [<-Array.getElem?_toList,g2]at he';cases he';exact g3.symm)⟩,hfp⟩;refine GU x1 (by rw [Array.toList_modify];exact g4) fun o' ho' j hj e=>?_;subst e;exact hnb' o' ho' hj
 ·obtain⟨x1,x2,x3⟩:=hw (.map (es.push ⟨kv k,val,clock⟩) (clock+1));refine⟨_,os',r1 g1,x1,x2,⟨hno,hnb',_,_,x3,?_,MapKept.stamped_push hst (fun x V e=>?_)⟩,hfp⟩
  rotate_left
  ·exact Yv hdk h4 g1 V e
  refine GU x1 (by rw [Array.toList_push];exact g2) fun o' ho' j hj e=>?_;subst e;exact hnb' o' ho' hj
def aeY{γ:β->Ty}{y:β}(hm:E.P.underlying t=some (.map kt et))(hk:MQ E.P kt kv)(V:be E.N G x (tV (uv b)))(hi:Pg E.N G i (kv k))(hv:be E.N G v (γ y))
  (h: ∀os',RG E ops tD rest (tF (CO γ) kv b none os' (dO m k y)::O) G):
  RG E ops tD (⟨none,.mapUpdate t x i v,ty,pos,after,none⟩::rest) (tF (CO γ) kv b none os m::O) G:= .of rfl fun a w S st=>by
 have I:a.eval x=uv b:=V S a st.facts;have M:a.eval i=kv k:=hi S a st.facts;have h3:(γ y).p S (a.eval v):=hv S a st.facts;obtain⟨⟨hp,hfp⟩,hap,hO⟩:=st.own;obtain⟨hno,hnb,es,clock,e3,e4,hst⟩:=hp;obtain⟨q,hq,hdk,hinj⟩:=hk;obtain⟨os1,p1,p2,_⟩:=wz hdk hinj (k:=k) 0 e4;have hnb1: ∀o∈os1,o.1≠some b:=fun o ho=>by
  rcases p1 o ho with h|h
  ·exact hnb o h
  ·rw [h];exact fun e=>by cases e
 obtain⟨w',os',r,x1,x2,x3,x4⟩:=Oy (hx:=CO γ) (E:=E) (y:=y) (o:=(none,0)) (val:=a.eval v) st.sat hm ⟨q,hq,hdk,hinj⟩ ⟨hno,hnb1,es,clock,e3,p2,hst⟩ ⟨rfl,h3⟩ (fun e=>by cases e) (fun _ _ _ e=>by cases e);have hrun:(execOp a.eval ⟨none,.mapUpdate t x i v,ty,pos,after,none⟩).run E.P w= .ok .skip w' :=by simp [execOp,I,M,r]
 refine⟨fun c h=>(by cases h),?_⟩;rw [hrun];have hfp' : ∀j,(tF (CO γ) kv b none os' (dO m k y)).fp j->(tF (CO γ) kv b none os m).fp j:=fun j hj=>by
  rcases x4 j hj with(h|⟨o,ho,e⟩)|e
  ·exact .inl h
  ·rcases p1 o ho with h|h
   ·exact .inr ⟨o,h,e⟩
   ·rw [h]at e;cases e
  ·cases e
 exact h os' _ _ S ⟨st.ext.step x1 (fun c hc=>hfp c (.inl hc)),x2,⟨⟨x3,fun j hj=>hfp j (hfp' j hj)⟩,fun f hf j hj=>hap f hf j (hfp' j hj),hO.ext x1 fun f hf j hj hjb=>hap f hf j (.inl hjb) hj⟩,st.facts⟩
end
def Fh(tmps:Array Value):ResultVar->Sem Value
 | .tmp t=>pure (tmps.getD t undef)
 | .cell a t=>do loadVar t (<-asAddr (tmps.getD a undef))
def Xv(P:Program)(N:Fr)(G:pC)(rv:ResultVar)(t:Ty):Prop:= ∀a w S,nC w S->du N S a G-> ∃v,(Fh a.tmps rv).run P w= .ok v w/\t.p S v
def aL{N:Fr}{k:Nat}{t:Ty}(hk:cH G k=some t):Xv P N G (.tmp k) t:=fun a w S _ hf=>⟨_,rfl,hf.at_ k t hk⟩
def aU{N:Fr}{k:Nat}{x:α}(ti:TI P aj sz bytes agg z)(hsz:r.sz=sz)(hag:r.agg=agg)(hk:cH G k=some (bH r x)):Xv P N G (.cell k aj) (Q r x):=fun a w S hs hf=>by
 obtain⟨b,off,c,U,fr,I,M,h3⟩:=hf.at_ k _ hk;obtain⟨c',h4,h5⟩:=hs.part M (r.len h3);rw [<-h5]at h3;have hl:=oD ti h4 hsz hag h3;have h1' :a.tmps[k]?.getD undef=Value.pointer (some ⟨b,off,none⟩):=by simpa [Rd] using I
 exact⟨_,by simp [Fh,h1',asAddr,hl],_,rfl,h3⟩
def YR(P:Program)(N:Fr)(G:pC):List ResultVar->List Ty->Prop
 |[],[]=>True
 |rv::rvs,t::ts=>Xv P N G rv t/\YR P N G rvs ts
 |_,_=>False
def YR.run{N:Fr}(hs:nC w S)(hf:du N S a G): ∀{rvs:List ResultVar} {ts:List Ty},YR P N G rvs ts-> ∃vs,(rvs.mapM (Fh a.tmps)).run P w= .ok vs w/\B5 S ts vs/\vs.length=rvs.length
 |[],[],_=>⟨[],rfl,trivial,rfl⟩
 |rv::rvs,t::ts,⟨I,M⟩=>by
  obtain⟨v,g1,g2⟩:=I a w S hs hf;obtain⟨vs,k1,k2,k3⟩:=YR.run hs hf M;exact⟨v::vs,by simp [List.mapM_cons,g1,k1,Result.andThen],⟨g2,k2⟩,by simp [k3]⟩
def br{rvs:List ResultVar}(hr:fn.results=rvs.toArray)(I:Nat.beq rvs.length 1=false)(h:YR P ⟨N,[]⟩ G rvs ts):
  AT ⟨P,⟨N,[]⟩,B,w0,S0,none⟩ (bodyPost P fn (Tb ⟨P,⟨N,[]⟩,B,w0,S0,none⟩ (tT ts))) .ret O G:=fun a w S st=>by
 obtain⟨vs,k1,k2,k3⟩:=h.run st.sat st.facts;have hne: ¬vs.length=1:=by rw [k3];intro e;rw [e]at I;cases I
 refine⟨st.facts.defers,.tuple vs.toArray,?_,_,S,rfl,st.ext,st.sat,vs,rfl,k2⟩;have e1:(fn.results.mapM (Fh a.tmps)).run P w= .ok vs.toArray w:=by
  rw [hr,List.mapM_toArray,Sem.run_map,k1];rfl
 have e3:results fn a.tmps=((fn.results.mapM (Fh a.tmps))>>=fun vs=>pure (if h:vs.size=1 then vs[0]else .tuple vs)):=rfl;rw [e3,Ak,e1];simp [Result.andThen,hne]
def Zt{v:Value}(h:(Q (gM r) xs).p S v):(gM r).rc S [v] xs:=by
 obtain⟨cs,e,M⟩:=h;obtain⟨a,cap,e2,h3⟩:=M;subst e2;rw [e];exact⟨a,cap,rfl,h3⟩
section
variable{ty:TypeId}
def jG{r:Rp β}{get:β->Value}{x:β}{p:Operand}(ti:TI E.P U 1 bytes false z)(hget:ro r off rV get)(hm:bx r aj b x∈O)(hv:get x=aY l cap n)(hp:be E.N G p (tV (aE b off))):
  cu E O G ⟨dst,.load U p,ty,pos,after,g⟩ (tV (aY l cap n)):=(bP (q:=rV) ti rfl rfl hget hm hp).imp fun _ _ h=>by rw [<-hv];exact(xN.1 h).1
def lK{q:Rp α}{r:Rp β}{get:β->Value}{x:β}{p:Operand}(ti:TI E.P U 1 bytes false z)(hget:ro r off rV get)(hm:bx r aj b x∈O)(hm2:gh q hx l cap xs∈O)(hv:get x=aY l cap xs.length)(hp:be E.N G p (tV (aE b off))):
  cu E O G ⟨dst,.load U p,ty,pos,after,g⟩ (tO q l cap xs):=fun a w S hs ho hf=>
 s9 (fun _ _ ⟨v,S',I,M,h3,h4⟩=>⟨v,S',I,M,h3,h4,by
  have h5:v=aY l cap xs.length:=h4;rw [h5];exact vn (((ho.ext0 M).mem _ hm2).1)⟩) (jG (g:=g) (ty:=ty) (pos:=pos) (after:=after) (dst:=dst) ti hget hm hv hp a w S hs ho hf)
def tQ{i o:Nat}{p:Operand}(hf:dv E.P aj i=some (off,sz))(h0:Nat.beq sz 0=false)(hp:be E.N G p (tV (aE b o)))(he:o+off=n):cu E O G ⟨dst,.fieldAddr aj p i,ty,pos,after,g⟩ (tV (aE b n)):=by
 subst he;exact Nx hf h0 hp
def mz{q:Rp α}{r:Rp β}{x:β}{p:Operand}(ti:TI E.P U sz bytes agg z)(hsz:q.sz=sz)(hag:q.agg=agg)(hag2:r.agg=agg)(hsz2:r.sz=sz)(hm:bx r aj b x∈O)(hc: ∀w S cs,dW E.base E.B w S O->r.rc S cs x->q.rc S cs y)(hp:be E.N G p (tV (aE b 0))):
  cu E O G ⟨dst,.load U p,ty,pos,after,g⟩ (Q q y):= .of_pure fun a w S _ ho hf=>by
 have I:a.eval p=aE b 0:=hp S a hf;obtain⟨⟨_,cur,h5,h6⟩,_⟩:=ho.mem _ hm;have h7:=hc w S _ ho h6;have hl:=q.len h7;have h8:q.rc S ((cur.toList.drop 0).take q.sz) y:=by rw [xu,rO (by omega)];exact h7
 exact⟨_,by simp [execOp,I,aE,Instr.loadAt,Instr.sureAddr,oD ti h5 hsz hag h8],_,rfl,h8⟩
def o5{q:Rp α}(ho:dW base B w S O)(hm:gh q hx l cap xs∈O):(gM q).rc S [aY l cap xs.length] xs:=Zt (vn (ho.mem _ hm).1)
end
def uZ{α β γ:Type}(r:Rp α)(r' :Rp γ)(off:Nat)(q:Rp β)(x:α)(y:β)(x' :γ):Prop:= ∀S cs ds,r.rc S cs x->q.rc S ds y->r'.rc S (cs.take off++ds++cs.drop (off+q.sz)) x'
def vq{x:α}{y:β}(h:k7 r off q set):uZ r r off q x y (set x y):=fun S cs ds I M=>h S cs x ds y I M
variable{r' :Rp γ}
def mu{x:α}{y:γ}(hs:r.sz=r'.sz):uZ r r' 0 r' x y y:=fun S cs ds I M=>by
 have hl:=r.len I;rw [List.take_zero,kW,Hi (by omega),vb];exact M
def VO{α' :Type}{p:Rp α}{p' :Rp α'}{x:α×β}{y:γ}{x1:α'}(h:uZ p p' 0 u x.1 y x1)(hu:Nat.ble u.sz p.sz=true):uZ (dD p q) (dD p' q) 0 u x y (x1,x.2):=fun S cs ds ⟨a,b,e,I,M⟩ hd=>by
 have hl:=p.len I;have hu' :=ve hu;have h3:=h S a ds I hd;subst e;rw [List.take_zero,kW,u9,Pp (by omega),<-mj];rw [List.take_zero,kW,u9]at h3;exact⟨_,_,rfl,h3,M⟩
def nS{β' :Type}{p:Rp α}{q' :Rp β'}{x:α×β}{y:γ}{off' :Nat}{x2:β'}(h:uZ q q' off u x.2 y x2)(ho:off' =p.sz+off):uZ (dD p q) (dD p q') off' u x y (x.1,x2):=fun S cs ds ⟨a,b,e,I,M⟩ hd=>by
 have hl:=p.len I;have h3:=h S b ds M hd;subst e ho;refine⟨a,_,?_,I,h3⟩;have e1:p.sz+off-a.length=off:=by omega
 have e2:p.sz+off+u.sz-a.length=off+u.sz:=by omega
 rw [List.take_append,List.drop_append,rO (by omega),Hi (by omega),e1,e2];simp
def Dm{α' β' :Type}{p:Rp α}{p' :Rp α'}{f:β->α}{f' :β' ->α'}{x:β}{x' :β'}{y:γ}{z:α'}(h:uZ p p' off u (f x) y z)(e:f' x' =z):uZ (sr p f) (sr p' f') off u x y x' :=fun S cs ds I M=>by
 show p'.rc S _ (f' x');rw [e];exact h S cs ds I M
section
variable{e:Exit}{ty:TypeId}
def gL{x:α}{x' :γ}{y:β}{p v:Operand}(ti:TI E.P U sz bytes agg z)(hsz:q.sz=sz)(hset:uZ r r' off q x y x')(hoff:Nat.ble (off+q.sz) r.sz=true)(hp:be E.N G p (tV (aE b off)))(hv:be E.N G v (Q q y))(k:RG E ops tD rest (bx r' aj b x' ::O) G):RG E ops tD (⟨none,.store U p v,ty,pos,after,none⟩::rest) (bx r aj b x::O) G:= .of rfl fun a w S st=>by
 have I:a.eval p=aE b off:=hp S a st.facts;obtain⟨ds,M,h3⟩:=hv S a st.facts;obtain⟨⟨hno,cur,h5,h6⟩,_⟩:=st.own.1;have hl:=r.len h6;have hoff' :=ve hoff;obtain⟨w',hr,e1,e2,e3,e4,e5,e6⟩:=nq ti hsz h3 h5 (off:=off) (by simp at hl;omega);have hrun:(execOp a.eval ⟨none,.store U p v,ty,pos,after,none⟩).run E.P w= .ok .skip w' :=by
  simp [execOp,I,M,Instr.storeAt,aE,Instr.sureAddr,hr]
 refine⟨fun c h=>(by cases h),?_⟩;rw [hrun];obtain⟨g1,g2,g3⟩:=uK (O:=O) st.sat (bx r aj b x) (bx r' aj b x') st.own (fun _=>Ap) (fun _=>Ap) ⟨e1,e2,e3,e4.1,e4.2⟩ e6 ⟨hno,_,e5,by simpa using hset S _ _ h6 h3⟩ hno;exact k _ _ S ⟨st.ext.step g1 (fun c hc=>st.own.1.2 c hc),g2,g3,st.facts⟩
end
section
variable{b:Frame}{k:List Item}{cs:List Frame}{F:Fence}
def uG:step P (lone (b.atR a (.code (.scope c)::k)) cs w)= .next (lone (b.atR a (.code c:: .inScope c::k)) cs w):=
 step_lone_go (by simp [stepG,stepG.exec,Frame.atR])
def No:step P (lone (b.atR a (.inScope c::k)) cs w)= .next (lone (b.atR a k) cs w):=
 step_lone_go (by simp [stepG,stepG.exec,Frame.atR])
def TW(h:c.wpIn F n P (Exit.noGoto tD) a w):(Code.scope c).wpIn F n P tD a w:=by
 intro b k cs hro H hr;have h0:(lone (b.atR a (.code (.scope c)::k)) cs w).fenced P F:=fenced_calm H hr rfl;obtain⟨e,a₁,w₁,hq,harr⟩:=h b (.inScope c::k) cs hro H hr
 cases e with
 |normal=>exact⟨.normal,a₁,w₁,hq,.head h0 uG (StepsIn.trans harr (.one (fenced_calm H hr rfl) No))⟩
 |exit id=>
  have V:exitTo id (.inScope c::k)=exitTo id k:=by simp [exitTo]
  exact⟨.exit id,a₁,w₁,hq,fun k' hk=> .head h0 uG (harr.1 k' (by rw [V];exact hk)),
   fun hr' hk=>let⟨k₁,I,M⟩:=harr.2 hr' (by rw [V];exact hk);⟨k₁,I,.head h0 uG M⟩⟩
 |goto l=>exact hq.elim
 |ret=>exact⟨_,a₁,w₁,hq,.of_steps (.one h0 uG) harr⟩
 |panic ch=>exact⟨_,a₁,w₁,hq,.of_steps (.one h0 uG) harr⟩
 |outgrown=>exact⟨_,a₁,w₁,hq,.of_steps (.one h0 uG) harr⟩
end
section
def Ha(h:CG E (Exit.noGoto tD) c O G):CG E tD (.scope c) O G:=fun a w S st=>TW (h a w S st)
def Hb{l:Nat}(h:AT E tD .normal O G):CG E tD (.label l) O G:=fun a w S st=>wpIn_label (h a w S st)
def u5(h:AT E tD .ret O G):AT E (Exit.noGoto tD) .ret O G:=h
end
def Qn [Inhabited α]{i:Nat}(h:i<m):ro (tE r m) (i*r.sz) r (fun x=>(x[i]?).getD default):=fun S cs x ⟨I,M⟩=>by
 have hi:x[i]? =some ((x[i]?).getD default):=by rw [qg (by omega)];rfl
 exact Br M hi
def aez [DecidableEq α] [Inhabited α]{t e:Nat}(J:P.underlying t=some (.array m e))(ti:TI P e sz bytes agg z)(hsz:r.sz=sz)(hag:r.agg=agg)(he:pf P e r n):pf P t (tE r m) (n+1):=fun S cs ds x y d w V hy=>by
 obtain⟨i,zv,hi,hs,_⟩:=ti.get;have hcell:P.cellsOf e=r.sz:=by unfold Program.cellsOf;rw [hi];simp [hs,hsz]
 have e1:(tE r m).val cs= .agg cs.toArray:=rfl;have e2:(tE r m).val ds= .agg ds.toArray:=rfl;rw [e1,e2,show d+(n+1)=(d+n)+1 from rfl,run_equalIn_array w (d+n) cs.toArray ds.toArray J hi,List.range_eq_range',hcell];have key: ∀k j,j+k=m->(Op.eqItems (d+n) e r.sz cs.toArray ds.toArray (List.range' j k)).run P w= .ok (decide (x.drop j=y.drop j)) w:=by
  intro k
  induction k with
  |zero=>
   intro j hj;rw [Hi (by have:=V.1;omega),Hi (by have:=hy.1;omega)];rfl
  |succ k ih=>
   intro j hj;have hjx:j<x.length:=by have:=V.1;omega
   have hjy:j<y.length:=by have:=hy.1;omega
   have I:=xU ti hsz hag (Qn (r:=r) (m:=m) (i:=j) (by omega)) V w;have M:=xU ti hsz hag (Qn (r:=r) (m:=m) (i:=j) (by omega)) hy w;have h3:=he S _ _ _ _ d w (Qn (r:=r) (m:=m) (i:=j) (by omega) S cs x V) (Qn (r:=r) (m:=m) (i:=j) (by omega) S ds y hy);rw [List.range'_succ];unfold Op.eqItems;simp only [Ak,I,M,h3,B8];have ex:x.drop j=(x[j]?).getD default::x.drop (j+1):=by rw [qg hjx];exact zX hjx
   have ey:y.drop j=(y[j]?).getD default::y.drop (j+1):=by rw [qg hjy];exact zX hjy
   rw [ex,ey];by_cases hq:(x[j]?).getD default=(y[j]?).getD default
   ·simp only [hq,decide_true,rM,jM,gT];rw [ih (j+1) (by omega)];congr 1;simp
   ·simp [hq]
 have:=key m 0 (by omega);simpa using this
section
variable{ty:TypeId}
def AG{xs:List Operand}{sz' bytes' :Nat}{agg' :Bool}{z' :List Value}(J:E.P.underlying t=some (.array m aj))(ti:TI E.P aj sz bytes agg z)(hsz:r.sz=sz)(tj:TI E.P t sz' bytes' agg' z')(hz:z'.length=m*r.sz)(hm:m=ys.length)(V:lI E.N G xs (ys.map (Q r))):cu E O G ⟨dst,.build t (EM 0 xs).toArray,ty,pos,after,g⟩ (Q (tE r m) ys):=
 .of_pure fun a w S _ _ hF=>by
  obtain⟨zv,hzr,hzc⟩:=tj.zero w;obtain⟨cs,hc,hfill⟩:=Mi ys (xs.map a.eval) 0 [] z' (V.tys hF) (by simp) (by rw [hz,hm]);subst hsz;have hparts:((EM 0 xs).toArray.map fun(i,x)=>(i,a.eval x)).toList=Jd 0 (xs.map a.eval):=by simpa using HY a.eval 0 xs
  rw [kW,kW]at hfill;refine⟨.agg cs.toArray,?_,cs,rfl,hm.symm,hc⟩;simp only [execOp,Instr.build,Ak,hzr,B8,oS J,ti.sizeOf,hzc,hparts,hfill];simp
end
def Cz(N:Nat):List Nat->List Oper->Bool
 |_,[]=>true
 |seen,o::rest=>match o.dst with
  |some d=>Nat.blt d N&& !(seen.any (Nat.beq d))&&Cz N (d::seen) rest
  |none=>Cz N seen rest
def RE(l:List Oper): ∀(seen:List Nat),Cz N seen l=true->
  (∀o:Oper,o∈l-> ∀d,o.dst=some d->d<N/\d∉seen)/\ ∀(i j:Nat) (o p:Oper) (d:Nat),l[i]? =some o->l[j]? =some p->o.dst=some d->p.dst=some d->i=j:=by
 induction l with
 |nil=>exact fun _ _=>⟨fun _ h=>(by cases h),fun _ _ _ _ _ h=>(by simp at h)⟩
 |cons o l ih=>
  intro seen h;unfold Cz at h
  cases hd:o.dst with
  |none=>
   rw [hd]at h;obtain⟨I,M⟩:=ih seen h;refine⟨fun q hq d hqd=>?_,fun i j p q d hi hj hp hq=>?_⟩
   ·rcases iW.1 hq with rfl|hq
    ·rw [hd]at hqd;cases hqd
    ·exact I q hq d hqd
   ·cases i with
    |zero=>simp at hi;subst hi;rw [hd]at hp;cases hp
    |succ i=>
     cases j with
     |zero=>simp at hj;subst hj;rw [hd]at hq;cases hq
     |succ j=>rw [M i j p q d (by simpa using hi) (by simpa using hj) hp hq]
  |some d0=>
   rw [hd]at h;simp only [iX,Aq,Hh]at h;obtain⟨⟨g1,g2⟩,g3⟩:=h;obtain⟨I,M⟩:=ih (d0::seen) g3;have hns:d0∉seen:=fun hm=>by
    have:seen.any (Nat.beq d0)=true:=xI.2 ⟨d0,hm,Nat.beq_refl d0⟩;rw [this]at g2;cases g2
   refine⟨fun q hq d hqd=>?_,fun i j p q d hi hj hp hq=>?_⟩
   ·rcases iW.1 hq with rfl|hq
    ·rw [hd]at hqd;cases hqd;exact⟨g1,hns⟩
    ·obtain⟨k1,k2⟩:=I q hq d hqd;exact⟨k1,fun hm=>k2 (ma _ hm)⟩
   ·cases i with
    |zero=>
     cases j with
     |zero=>rfl
     |succ j=>
      simp at hi;subst hi;rw [hd]at hp;cases hp;exact absurd (md ..) (I q (FS (by simpa using hj)) d0 hq).2
    |succ i=>
     cases j with
     |zero=>
      simp at hj;subst hj;rw [hd]at hq;cases hq;exact absurd (md ..) (I p (FS (by simpa using hi)) d0 hp).2
     |succ j=>rw [M i j p q d (by simpa using hi) (by simpa using hj) hp hq]
def Nu:List Oper->List Ty->pC->pC
 |o::l,t::ts,G=>match o.dst with
  |some d=>(d,t)::Nu l ts G
  |none=>Nu l ts G
 |_,_,G=>G
def Yn(l:List Oper): ∀(ts:List Ty) (k:Nat) (t:Ty),ts.length=l.length->cH (Nu l ts G) k=some t->
  (∃(j:Nat) (o:Oper),l[j]? =some o/\o.dst=some k/\ts[j]? =some t)\/(cH G k=some t/\ ∀o:Oper,o∈l->o.dst≠some k):=by
 induction l with
 |nil=>
  intro ts k t hl h;have:ts=[]:=Ao (by simpa using hl);subst this;exact .inr ⟨h,fun _ h=>(by cases h)⟩
 |cons o l ih=>
  intro ts k t hl h
  cases ts with
  |nil=>simp at hl
  |cons u ts=>
   unfold Nu at h;have hl' :ts.length=l.length:=by simpa using hl
   have lift:((∃(j:Nat) (p:Oper),l[j]? =some p/\p.dst=some k/\ts[j]? =some t)\/(cH G k=some t/\ ∀p:Oper,p∈l->p.dst≠some k))->o.dst≠some k->
     (∃(j:Nat) (p:Oper),(o::l)[j]? =some p/\p.dst=some k/\(u::ts)[j]? =some t)\/(cH G k=some t/\ ∀p:Oper,p∈o::l->p.dst≠some k):=by
    rintro(⟨j,p,I,M,h3⟩|⟨I,M⟩) hne
    ·exact .inl ⟨j+1,p,by simpa using I,M,by simpa using h3⟩
    ·exact .inr ⟨I,fun p hp=>(iW.1 hp).elim (fun e=>by subst e;exact hne) (M p)⟩
   cases hd:o.dst with
   |none=>
    rw [hd]at h;exact lift (ih ts k t hl' h) (by rw [hd];exact fun e=>by cases e)
   |some d=>
    rw [hd]at h;simp only at h;unfold cH at h;by_cases H:Nat.beq d k=true
    ·rw [H]at h;have:=zp H;subst this;have e:u=t:=by simpa using h
     subst e;exact .inl ⟨0,o,rfl,hd,rfl⟩
    ·rw [yE]at H;rw [H]at h;refine lift (ih ts k t hl' h) ?_;rw [hd];intro e;have:d=k:=vc e;subst this;simp at H
abbrev TS:=List Nat×(List OI->Ty)
def TS.at(p:TS)(σ:Nat->OI):Ty:=p.2 (p.1.map σ)
def tc(t:Ty):TS:=([],fun _=>t)
def OmS(Ss:List ((Nat->OI)->List OE))(c:Nat)(σ:Nat->OI):List OE:=match Ss[c]? with|some f=>f σ|none=>[]
structure NS where
 slot:Nat
 ty:(Nat->OI)->Ty
 src:Option Nat
def NS.at(n:NS)(σ:Nat->OI):Nd:=⟨n.slot,n.ty σ,n.src⟩
def ae1(G:pC)(ts:List TS)(n:NS):Prop:=
 match n.src with
 |some j=> ∀σ,(ts[j]?).map (fun p=>p.at σ)=some (n.ty σ)
 |none=> ∀σ,cH G n.slot=some (n.ty σ)
def Jm(G:pC)(ts:List TS):List NS->Prop
 |[]=>True
 |n::l=>ae1 G ts n/\Jm G ts l
def Jm.mem{ts:List TS}: ∀{l:List NS},Jm G ts l-> ∀n∈l,ae1 G ts n
 |_::_,⟨h,_⟩,_,.head _=>h
 |_::_,⟨_,h⟩,_,.tail _ hm=>Jm.mem h _ hm
def IP(l:List NS)(σ:Nat->OI):pC:=oO (l.map (·.at σ))
def tsS(ts:List TS)(σ:Nat->OI):List Ty:=ts.map fun p=>p.at σ
def ah1(L:List Oper)(es:List Bool)(i:Nat)(p:TS):Bool:=p.1.all fun k=>(es[k]?).getD false&&(Nat.beq k i||zC L L.length i k)
structure DJS(E:En)(G:pC)(l:List Oper)(ts:List TS)(Ss:List ((Nat->OI)->List OE))(es:List Bool)(done:Array Bool)(a:Act)(w:World)(S:SH)(σ:Nat->OI)(c:Nat):Prop where
 ext:kh E.B E.w0 E.S0 w S
 sat:nC w S
 own:dW E.base E.B w S (OmS Ss c σ)
 size:a.tmps.size=E.N.n
 defers:a.defers=E.N.ds
 dsz:done.size=l.length
 down: ∀j o,l[j]? =some o->done.getD j false=true-> ∀e∈o.after,Region.binds .any e=true->done.getD e.on false=true
 old: ∀k t,cH G k=some t->(∀j o,l[j]? =some o->done.getD j false=true->o.dst≠some k)->t.p S (a.tmps.getD k undef)
 new: ∀j o d p,l[j]? =some o->done.getD j false=true->o.dst=some d->ts[j]? =some p->(p.at σ).p S (a.tmps.getD d undef)
 deps: ∀j p,done.getD j false=true->ts[j]? =some p-> ∀k∈p.1,done.getD k false=true
 chain: ∀k,es[k]? =some true->(done.getD k false=true↔afW es k<c)
section
variable{L:List Oper}{ts:List TS}{Ss:List ((Nat->OI)->List OE)}{es:List Bool}
end
def Mp{ty:TypeId}(hnd: ∀c,op≠ .defer c)(h: ∀a w S,nC w S->dW E.base E.B w S O->du E.N S a G->E.base<=w.heap.size-> ∃w' S' x,(execOp a.eval ⟨none,op,ty,pos,after,g⟩).run E.P w= .ok .skip w' /\kh (Fo O) w S w' S' /\nC w' S' /\dW E.base E.B w' S' (post x)):
  EffOK E O G ⟨none,op,ty,pos,after,g⟩ post (fun _=>Bf):=fun a w S hs ho hf H=>by
 obtain⟨w',S',x,I,M,h3,h4⟩:=h a w S hs ho hf H;refine⟨hnd,?_⟩;rw [I];exact⟨undef,S',x,rfl,M,h3,h4,trivial⟩
abbrev HL:=List (Nat×Value)
def EJ:HL->Nat->Option Value
 |[],_=>none
 |p::hs,o=>bif Nat.beq p.1 o then some p.2 else EJ hs o
def HQ: ∀{hs:HL} {o:Nat} {v:Value},EJ hs o=some v->(o,v)∈hs
 |[],_,_,h=>by cases h
 |p::hs,o,v,h=>by
  unfold EJ at h;by_cases H:Nat.beq p.1 o=true
  ·rw [H]at h;have e1:=zp H;have e2:p.2=v:=vc h;subst e1 e2;exact md ..
  ·rw [yE]at H;rw [H]at h;exact ma _ (HQ h)
def rH{α:Type}(r:Rp α)(hs:HL):Rp α where
 sz:=r.sz
 agg:=r.agg
 rc:=fun S cs x=>r.rc S cs x/\ ∀p∈hs,cs[p.1]? =some p.2
 mono:=fun h k=>⟨r.mono h k.1,k.2⟩
 len:=fun k=>r.len k.1
 one:=fun k=>r.one k.1
 sc:=r.sc
def acR{hs:HL}(h:ro r off q get):ro (rH r hs) off q get:=fun S cs x k=>h S cs x k.1
def YM{v:Value}(h:cs[off]? =some v):(cs.drop off).take 1=[v]:=by
 have hlt:=(qS.1 h).1;rw [zX hlt,(qS.1 h).2];rfl
def alC{hs:HL}{v:Value}(h:EJ hs off=some v):ro (rH r hs) off rV (fun _=>v):=fun S cs x k=>by
 have I:=k.2 _ (HQ h);exact⟨YM I,r.one k.1 v (FS I)⟩
def HZ(z:List Value):HL->Prop
 |[]=>True
 |p::hs=>z[p.1]? =some p.2/\HZ z hs
def HZ.all: ∀{hs:HL},HZ z hs-> ∀p∈hs,z[p.1]? =some p.2
 |_::_,⟨h,_⟩,_,.head _=>h
 |_::_,⟨_,h⟩,_,.tail _ hm=>HZ.all h _ hm
def zH{x:α}{hs:HL}(h: ∀S,r.rc S z x)(k:HZ z hs): ∀S,(rH r hs).rc S z x:=fun S=>⟨h S,k.all⟩
def agY(hs:HL)(off sz:Nat):Bool:=hs.all fun p=>Nat.blt p.1 off||Nat.ble (off+sz) p.1
def HOK(hs:HL)(off sz:Nat)(v:Option Value):HL->Prop
 |[]=>True
 |p::l=>((v=some p.2/\p.1=off/\sz=1)\/(EJ hs p.1=some p.2/\(Nat.blt p.1 off||Nat.ble (off+sz) p.1)=true))/\HOK hs off sz v l
def HOK.all{hs:HL}{v:Option Value}: ∀{l:HL},HOK hs off sz v l-> ∀p∈l,(v=some p.2/\p.1=off/\sz=1)\/(EJ hs p.1=some p.2/\(Nat.blt p.1 off||Nat.ble (off+sz) p.1)=true)
 |_::_,⟨h,_⟩,_,.head _=>h
 |_::_,⟨_,h⟩,_,.tail _ hm=>HOK.all h _ hm
def Jh{ds:List Value}{k:Nat}(hl:ds.length=sz)(hoff:off+sz<=cs.length)(h:(Nat.blt k off||Nat.ble (off+sz) k)=true):(cs.take off++ds++cs.drop (off+sz))[k]? =cs[k]? :=by
 simp only [xv,Aq,Nat.ble_eq]at h;have J:(cs.take off).length=off:=by simp;omega
 rcases h with h|h
 ·rw [EU (by simp;omega),EU (by omega),D1 h]
 ·rw [we (by simp;omega),A7];congr 1;simp only [lj,J,hl];omega
def abh{ds:List Value}{v:Value}(hd:ds=[v])(hoff:off+1<=cs.length):(cs.take off++ds++cs.drop (off+1))[off]? =some v:=by
 subst hd;have J:(cs.take off).length=off:=by simp;omega
 rw [EU (by simp;omega),we (by omega),J,Ar];rfl
def aff{hs:HL}(h:k7 r off q set)(hk:agY hs off q.sz=true)(hoff:Nat.ble (off+q.sz) r.sz=true):k7 (rH r hs) off q set:=fun S cs x ds y I M=>by
 refine⟨h S cs x ds y I.1 M,fun p hp=>?_⟩;have hl:=r.len I.1;rw [Jh (q.len M) (by have:=ve hoff;omega) (mN.1 hk p hp)];exact I.2 _ hp
def rU:Rp Unit where
 sz:=1
 agg:=false
 rc:=fun _ cs _=> ∃v,cs=[v]/\v.oneCell' =true
 mono:=fun _ h=>h
 len:=fun⟨v,h,_⟩=>by rw [h];rfl
 one:=fun⟨v,h,k⟩ c hc=>by rw [h]at hc;simp at hc;subst hc;exact k
 sc:=fun _=>rfl
def hU{N:Fr}{u:Value}(h:be N G x (tV u))(ho:u.oneCell' =true):be N G x (Q rU ()):=fun S a hf=>by
 have I:a.eval x=u:=h S a hf;rw [I];exact⟨[u],rfl,u,rfl,ho⟩
section
variable{e:Exit}
section
variable{ty:TypeId}
def zR{t:OI->Ty}(h:EffOK E O G ⟨none,op,ty,pos,after,none⟩ post t)(k: ∀x,RG E ops tD rest (post x) G):RG E ops tD (⟨none,op,ty,pos,after,none⟩::rest) O G:= .of rfl fun a w S st=>
 s9 (fun a' w' ⟨v,S',x,ha,V,hs,ho,hv⟩=>by
  subst ha;exact k x _ _ S' ⟨st.ext.step V fun b ⟨f,hf,H⟩=>(dW.mem st.own f hf).2 b H,hs,ho,st.facts.mono V.keep⟩) (h a w S st.sat st.own st.facts st.base_le)
def jY{x:α}{x' :γ}{y:β}{p v:Operand}(ti:TI E.P U sz bytes agg z)(hsz:q.sz=sz)(hset:uZ r r' off q x y x')(hoff:Nat.ble (off+q.sz) r.sz=true)(hp:be E.N G p (tV (aE b off)))(hv:be E.N G v (Q q y)):EffOK E (bx r aj b x::O) G ⟨none,.store U p v,ty,pos,after,g⟩ (fun _=>bx r' aj b x' ::O) (fun _=>Bf):=Mp (fun _ h=>(by cases h)) fun a w S hs ho hf H=>by
 have I:a.eval p=aE b off:=hp S a hf;obtain⟨ds,M,h3⟩:=hv S a hf;obtain⟨⟨hno,cur,h5,h6⟩,_⟩:=ho.1;have hl:=r.len h6;have hoff' :=ve hoff;obtain⟨w',hr,e1,e2,e3,e4,e5,e6⟩:=nq ti hsz h3 h5 (off:=off) (by simp at hl;omega);have hrun:(execOp a.eval ⟨none,.store U p v,ty,pos,after,g⟩).run E.P w= .ok .skip w' :=by
  simp [execOp,I,M,Instr.storeAt,aE,Instr.sureAddr,hr]
 obtain⟨g1,g2,g3⟩:=uK (O:=O) hs (bx r aj b x) (bx r' aj b x') ho (fun _=>Ap) (fun _=>Ap) ⟨e1,e2,e3,e4.1,e4.2⟩ e6 ⟨hno,_,e5,by simpa using hset S _ _ h6 h3⟩ hno;exact⟨w',S,tA,hrun,g1.more fun k hk=>⟨_,md ..,hk⟩,g2,g3⟩
def BK{hs hs' :HL}{x:α}{y:β}{u:Value}{p v:Operand}(ti:TI E.P U 1 bytes false z)(hsz:q.sz=1)(hag:q.agg=false)(hset:k7 r off q set)(hoff:Nat.ble (off+1) r.sz=true)(hk:HOK hs off 1 (some u) hs')(hp:be E.N G p (tV (aE b off)))(hv:be E.N G v (Q q y))(hu:be E.N G v (tV u)):EffOK E (bx (rH r hs) aj b x::O) G ⟨none,.store U p v,ty,pos,after,g⟩ (fun _=>bx (rH r hs') aj b (set x y)::O) (fun _=>Bf):=Mp (fun _ h=>(by cases h)) fun a w S hsat ho hf H=>by
 have I:a.eval p=aE b off:=hp S a hf;obtain⟨ds,M,h3⟩:=hv S a hf;have hu' :a.eval v=u:=hu S a hf;obtain⟨⟨hno,cur,h5,h6⟩,_⟩:=ho.1;have hl:=r.len h6.1;have hoff' :=ve hoff;have hdl:=q.len h3;have hds:ds=[u]:=by
  obtain⟨d,hd⟩:=VC.1 (by rw [hdl,hsz]:ds.length=1);subst hd;have e1:q.val [d]=d:=by simp [Rp.val,hag]
  rw [M,e1]at hu';rw [hu']
 obtain⟨w',hr,e1,e2,e3,e4,e5,e6⟩:=nq ti hsz h3 h5 (off:=off) (by simp at hl;omega);have hrun:(execOp a.eval ⟨none,.store U p v,ty,pos,after,g⟩).run E.P w= .ok .skip w' :=by
  simp [execOp,I,M,Instr.storeAt,aE,Instr.sureAddr,hr]
 rw [hsz]at e5;have hnew:(rH r hs').rc S (cur.toList.take off++ds++cur.toList.drop (off+1)) (set x y):=by
  have h7:=hset S _ _ _ _ h6.1 h3;rw [hsz]at h7;refine⟨h7,fun p hp=>?_⟩;rcases hk.all p hp with⟨f1,f2,_⟩|⟨f1,f2⟩
  ·rw [f2];exact abh (by rw [hds,vc f1]) (by omega)
  ·rw [Jh (by rw [hdl,hsz]) (by omega) f2];exact h6.2 _ (HQ f1)
 obtain⟨g1,g2,g3⟩:=uK (O:=O) hsat (bx (rH r hs) aj b x) (bx (rH r hs') aj b (set x y)) ho (fun _=>Ap) (fun _=>Ap) ⟨e1,e2,e3,e4.1,e4.2⟩ e6 ⟨hno,_,e5,by simpa using hnew⟩ hno;exact⟨w',S,tA,hrun,g1.more fun k hk=>⟨_,md ..,hk⟩,g2,g3⟩
end
section
variable{ty:TypeId}
def ZW{hs:HL}{x:α}{u:Value}{p:Operand}(ti:TI E.P U 1 bytes false z)(hk:EJ hs off=some u)(hm:bx (rH r hs) aj b x∈O)(hp:be E.N G p (tV (aE b off))):
  cu E O G ⟨dst,.load U p,ty,pos,after,g⟩ (tV u):=(bP (q:=rV) ti rfl rfl (alC hk) hm hp).imp fun _ _ h=>(xN.1 h).1
def eS{q:Rp α}{r:Rp β}{hs:HL}{x:β}{p:Operand}(ti:TI E.P U 1 bytes false z)(hk:EJ hs off=some (aY l cap xs.length))(hm:bx (rH r hs) aj b x∈O)(hm2:gh q hx l cap xs∈O)(hp:be E.N G p (tV (aE b off))):
  cu E O G ⟨dst,.load U p,ty,pos,after,g⟩ (tO q l cap xs):=fun a w S hs' ho hf=>
 s9 (fun _ _ ⟨v,S',I,M,h3,h4⟩=>⟨v,S',I,M,h3,h4,by
  have h5:v=aY l cap xs.length:=h4;rw [h5];exact vn (((ho.ext0 M).mem _ hm2).1)⟩) (ZW (g:=g) (ty:=ty) (pos:=pos) (after:=after) (dst:=dst) ti hk hm hp a w S hs' ho hf)
def acx{t:Ty}(I: ∀S v,t.p S v->v.oneCell' =true)(V:be E.N G x t):cu E O G ⟨dst,.box aj x,ty,pos,after,g⟩ (bH (rT t) ()):=
 UG (fun S a hf=>tRT.2 ⟨I _ _ (V S a hf),V S a hf⟩)
end
end
