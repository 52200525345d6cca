/- eJ of this claim: W36, W37, W38, W39, W40, W48, W50, W51, W41, W42, W43, W21, W27, W45, W46, W47, W52, W53, W56, W57, W64, W65, W63, W60. -/
import Derived.Test.YtpgjgkdpeagjbaaGreatDoorJaV2
import Derived.Lib.Bytealg
import Derived.Maps.Range
import Derived.Laws.IdiomRangeMap
import Derived.Test.YtpgjgkdpeagjbaaGreatDoorJaV1
import Derived.Laws.BytesString
import Derived.Below
import Derived.ProofKit
import Derived.OpenShut
import Derived.LaidMore
import Derived.Laws.Externs
import Derived.Shelf.GgSortFunc.Insertion
set_option linter.all false
namespace Go.Proofs.YtpgjgkdpeagjbaaGreatDoor
open Go

variable{P:Program}{S:SH}{U:TypeId}{β α:Type}{b cap:Nat}{cells:List Value}{j:IntKind}{κ:Type}{lo:Int}{m:List (κ×β)}{mm:Bool}{r:Rp α}{u:Ty}{w:World}{xs ys:List α}
def Nz{l:Option Nat}{t' e' :TypeId}(Y:P.underlying t' =some (.slice e'))(h:Fi mm r U l cap xs w S)(hs:eS xs lo (xs.length:Int)=some ys):
  ∃news,Src P r.sz t' (qU r.sz l cap lo.toNat ys.length) ys.length news w/\xE r S news ys:=by
 obtain⟨cells,I,K,_⟩:=h
 obtain⟨lo',m,rfl,hm,h3,h4,rfl⟩:=jv hs
 have hm' :m=xs.length:=by omega
 subst hm'
 rw [Dg,BH]
 cases l with
 |none=>
  have V:xs=[]:=vZ I.1
  subst V
  exact⟨[],by simpa [qU] using Src.ofNil w Y 0,by simp [xE]⟩
 |some b=>
  obtain⟨cur,g1,g2,g3,g4,g5⟩:=I
  have hlen:(xs.drop lo').length=xs.length-lo' :=by simp
  have hcl:=rD K
  have hsp:xs=xs.take lo' ++xs.drop lo' :=(xQ lo' xs).symm
  have htl:(xs.take lo').length=lo' :=by simp;omega
  have hr:xE r S (cells.drop (lo' *r.sz)) (xs.drop lo'):=by
   rw [hsp]at K
   have:=(tR K).2
   rwa [htl]at this
  have hmul:lo' *r.sz<=xs.length*r.sz:=BJ _ h3
  refine⟨cells.drop (lo' *r.sz),?_,hr⟩
  unfold qU
  refine Src.ofSlice w Y _ _ _ _ (rD hr) (fun j u hu=>?_) (Gu hr)
  by_cases hc:cap=lo'
  ·have:xs.drop lo' =[]:=EF (by omega)
   rw [this]at hr
   have hr' :cells.drop (lo' *r.sz)=[]:=hr
   rw [hr']at hu;simp at hu
  ·simp only [hc,fU]
   rw [lg,Ep g1]
   rw [zU,<-g5]at hu
   have hj:lo' *r.sz+j<xs.length*r.sz:=by
    have:=(pP.1 hu).1
    simp at this;omega
   rw [EG hj]at hu
   simpa using hu
variable{E:En}{G:nt}{aK:List OE}{aJ:Exit->Act->World->Prop}{ak:TypeId}{a:Act}{after:Array Edge}{agg:Bool}{bytes:Nat}{c:Code}{d:Nat}{e:TypeId}{k:IntKind}{n:Nat}{ok:α->Prop}{ops:Array Oper}{pos:String}{rest:List Oper}{st:TypeId}{sz:Nat}{t ty:TypeId}{x:Nat}{y:Code}{yt:TypeId}{z:List Value}
section
def KO{l:Option Nat}{x:Operand}(Y:E.P.underlying t=some (.slice e))(hm:oq mm r U l cap xs∈aK)(hs:eS xs lo (xs.length:Int)=some ys)(V:bk E.N G x (tV (qU r.sz l cap lo.toNat ys.length)))(hd:Nat.blt d E.N.n=true)(k: ∀b,(b=true->ys=[])->RG E ops aJ rest aK ((d,tD rB b)::G)):RG E ops aJ (⟨some d,.binOp .eql t x (.const (.slice none 0 0)) yt,ty,pos,after,none⟩::rest) aK G:= .of rfl fun a w S st=>by
 have I:a.eval x=qU r.sz l cap lo.toNat ys.length:=V S a st.facts
 obtain⟨⟨cells,hraw,_⟩,_⟩:=st.own.mem _ hm
 have hcn:a.eval (.const (.slice none 0 0))= .slice none 0 0:=rfl
 cases l with
 |none=>
  have hx0:xs=[]:=vZ hraw.1
  have hy0:ys=[]:=by
   obtain⟨lo',m,_,_,_,_,rfl⟩:=jv hs
   subst hx0;simp
  have h3:(Op.equal t (.slice none 0 0) (.slice none 0 0)).run E.P w= .ok true w:=Dz fun d=>by
   simp [Op.equalIn,nc Y]
  have hrun:(execOp a.eval ⟨some d,.binOp .eql t x (.const (.slice none 0 0)) yt,ty,pos,after,none⟩).run E.P w= .ok (.value (.bool true)) w:=by
   simp [execOp,I,qU,hcn,eqGuard,binOp,h3]
  refine⟨fun c h=>(by cases h),?_⟩
  rw [hrun]
  exact k true (fun _=>hy0) _ _ S (st.step (jh.refl _ _ _) st.sat hd (ko.2 rfl))
 |some b=>
  obtain⟨ad,hv⟩: ∃ad,qU r.sz (some b) cap lo.toNat ys.length= .slice (some ad) ys.length (cap-lo.toNat):=⟨_,rfl⟩
  have h3:(Op.equal t (.slice (some ad) ys.length (cap-lo.toNat)) (.slice none 0 0)).run E.P w= .ok false w:=Dz fun d=>by
   simp [Op.equalIn,nc Y]
  have hrun:(execOp a.eval ⟨some d,.binOp .eql t x (.const (.slice none 0 0)) yt,ty,pos,after,none⟩).run E.P w= .ok (.value (.bool false)) w:=by
   simp [execOp,I,hv,hcn,eqGuard,binOp,h3]
  refine⟨fun c h=>(by cases h),?_⟩
  rw [hrun]
  exact k false (fun e=>(by cases e)) _ _ S (st.step (jh.refl _ _ _) st.sat hd (ko.2 rfl))
def IV{t' :TypeId}{l l2:Option Nat}{cap2:Nat}{zs us:List α}{x y:Operand}(ti:TI E.P ak sz bytes agg z)(hsz:r.sz=sz)(hz:Nat.beq z.length sz=true)(h0:Nat.blt 0 sz=true)(h128:Nat.ble bytes 2048=true)(Y:E.P.underlying t=some (.slice ak))(ht' :t' =t)(hd:Nat.blt d E.N.n=true)(V:bk E.N G x (tV (bw l cap n)))(hm:oq mm r U l2 cap2 us∈ff r ak l cap xs::aK)(hs:eS us lo (us.length:Int)=some ys)(hy:bk E.N G y (tV (qU r.sz l2 cap2 lo.toNat ys.length)))(happ:app xs ys=some zs)(k: ∀l' cap',RG E ops aJ rest (ff r ak l' cap' zs::aK) ((d,tV (bw l' cap' zs.length))::G))(hn:n=xs.length:=by rfl):
  RG E ops aJ (⟨some d,.call ⟨.builtin .append,#[x,y],#[t,t']⟩,ty,pos,after,none⟩::rest) (ff r ak l cap xs::aK) G:=by
 subst ht'
 exact C4 (u:=fun cap' l' =>tV (bw l' cap' zs.length)) ti hsz hz h0 h128 Y hd V (fun a w S st=>by
  have I:a.eval y=qU r.sz l2 cap2 lo.toNat ys.length:=hy S a st.facts
  rw [I]
  exact Nz Y (st.own.mem _ hm).1 hs) happ (fun _ _ _ _ _=>rfl) k hn
end

abbrev ItX(α X:Type):=(σ:Type)->(α->σ->Option (Bool×σ))->σ->Option (σ×X)
def Td(P:Program){α X:Type}(args:α->List Ty)(it:ItX α X)(Ob:X->OI->List OE)(fid:FuncId)(cap:Array Value)(fp:Nat->Prop)(w:World)(S:SH):Prop:=
 ∀(σ:Type) (y:α->σ->Option (Bool×σ)) (s:σ) (R:σ×X),it σ y s=some R-> ∀h1 yv,Yld P args y h1 yv-> ∀e,h1 s e->e.p w S->(∀k,e.fp k-> ¬fp k)->
  Calls P fid (#[yv]++cap) w fun en w' => ∃e' S' j,(∃v,en= .returned v)/\h1 R.1 e' /\jh (fun k=>e.fp k\/fp k) w S w' S' /\lF w' S' /\e'.p w' S' /\dN 0 s0 w' S' (Ob R.2 j)/\(∀k,e'.fp k\/CV (Ob R.2 j) k->(e.fp k\/fp k)\/w.heap.size<=k)/\ ∀k,e'.fp k-> ¬CV (Ob R.2 j) k
def Md(P:Program){α X:Type}(args:α->List Ty)(it:ItX α X)(Ob:X->OI->List OE)(v:Value)(fp:Nat->Prop):OE where
 fp:=fp
 p:=fun w S=>(∀k,fp k->k<w.heap.size)/\ ∃fid cap,v= .func (.func fid) #[] cap/\aj P fid=true/\
  ∀C w' S',jh C w S w' S' ->(∀k,fp k-> ¬C k)->lF w' S' ->Td P args it Ob fid cap fp w' S'
 here:=fun h k hk=>h.1 k hk
 kept:=by
  rintro C w w' S S' ⟨I,fid,cap,K,h3,h4⟩ k hC
  refine⟨fun b M=>Ad (I b M) k.size,fid,cap,K,h3,fun C' w'' S'' k' hC' hs=>?_⟩;exact h4 (fun b=>C b\/C' b) w'' S'' ((k.more fun b M=> .inl M).trans (k'.more fun b M=> .inr M)) (fun b M h=>h.elim (hC b M) (hC' b M)) hs
def ads:Unit->OI->List OE:=fun _ _=>[]
def itU{α:Type}(it:It α):ItX α Unit:=fun σ y s=>(it σ y s).map fun r=>(r,())
variable{X:Type}{S' :SH}{args:α->List Ty}{fid:FuncId}{fp:Nat->Prop}{it:ItX α X}{p:Nat}{v:Value}{σ:Type}
def adA{it:It α}(h:(itr P args it v fp).p w S):(Md P args (itU it) ads v fp).p w S:=by
 obtain⟨I,fid,cap,K,h3,h4⟩:=h
 refine⟨I,fid,cap,K,h3,fun C w' S' k hC hs σ y s R hit h1 yv hy e he hep hap=>?_⟩
 unfold itU at hit
 cases hq:it σ y s with
 |none=>rw [hq]at hit;cases hit
 |some s' =>
  rw [hq]at hit
  obtain rfl:(s',())=R:=by simpa using hit
  refine(h4 C w' S' k hC hs σ y s s' hq h1 yv hy e he hep hap).mono ?_
  rintro en w2 ⟨e',S2,g1,g2,g3,g4,g5,g6⟩
  exact⟨e',S2,sF,g1,g2,g3,g4,g5,trivial,fun k hk=>hk.elim (fun h=>(g6 k h).imp .inl id) (fun⟨_,h,_⟩=>by cases h),fun k _ ⟨_,h,_⟩=>by cases h⟩
section
variable{it:It α}
def acY(h:CG E aJ c (Md P args (itU it) ads v fp::aK) G):CG E aJ c (itr P args it v fp::aK) G:=fun a w S st=>h a w S (st.own_map fun⟨⟨g1,g2⟩,g3,g4⟩=>⟨⟨adA g1,g2⟩,g3,g4⟩)
end

def EA(P:Program)(fid:FuncId){α X:Type}(args:α->List Ty)(it:ItX α X)(Ob:X->OI->List OE)(aK:List OE)(cts:List Ty):Prop:=
 ∀w S cap,lF w S->dN 0 s0 w S aK->Aa S cts cap->Td P args it Ob fid cap.toArray (CV aK) w S
def V4(E:En){σ X:Type}(h1:σ->OE->Prop)(R:σ×X)(Ob:X->OI->List OE):Ending->World->Prop:=fun en w' => ∃e' S' j,(∃v,en= .returned v)/\h1 R.1 e' /\jh E.B E.w0 E.S0 w' S' /\lF w' S' /\e'.p w' S' /\dN 0 s0 w' S' (Ob R.2 j)/\(∀k,e'.fp k\/CV (Ob R.2 j) k->E.B k\/E.w0.heap.size<=k)/\ ∀k,e'.fp k-> ¬CV (Ob R.2 j) k
variable{B:Nat->Prop}{N:Nat}{Ob:X->OI->List OE}{S0:SH}{f:FuncId}{fn:Func}{ts:List Ty}{w0:World}
def EA.of{cts:List Ty}(hf:P.funcs[f]? =some fn)(M:fn.body=some c)(hN:fn.ntmps=N)(hn:Nat.ble (cts.length+1) N=true)(h: ∀(σ:Type) (y:α->σ->Option (Bool×σ)) (s:σ) (R:σ×X),it σ y s=some R-> ∀h1 yv,Yld P args y h1 yv-> ∀e,h1 s e-> ∀w0 S0 B,(∀k,B k->e.fp k\/ ∃f∈aK,f.fp k)->
   CG ⟨P,⟨N,[]⟩,B,w0,S0,none⟩ (bodyPost P fn (V4 ⟨P,⟨N,[]⟩,B,w0,S0,none⟩ h1 R Ob)) c (e::aK) (vh 0 (tV yv::cts))):EA P f args it Ob aK cts:=by
 subst hN
 intro w S cap hs ho hc σ y s R hit h1 yv hy e he hep hap
 have hown:dN w.heap.size (fun k=>e.fp k\/ ∃f∈aK,f.fp k) w S (e::aK):=
  ⟨⟨hep,fun k hk=> .inr (.inl hk)⟩,fun f hf b M hfb=>hap b M ⟨f,hf,hfb⟩,mw ho fun f hf k hk=> .inr (.inr ⟨f,hf,hk⟩)⟩
 have hfacts:=oR (S:=S) (ts:=tV yv::cts) (vs:=yv::cap) ⟨rfl,hc⟩ fn.ntmps (by simpa using rL hn)
 have:=lE.1 (GP (F:=fw none) (n:=0) hf M trivial (h σ y s R hit h1 yv hy e he w S (fun k=>e.fp k\/ ∃f∈aK,f.fp k) (fun _ h=>h) _ w S ⟨jh.refl _ _ _,hs,hown,hfacts⟩))
 rw [show(#[yv]++cap.toArray:Array Value)=(yv::cap).toArray from by simp]
 exact this.mono fun en w' ⟨e',S',j,I,K,h3,h4,h5,h6,h7,h8⟩=>⟨e',S',j,I,K,h3,h4,h5,h6,h7,h8⟩
def PB{h1:σ->OE->Prop}{R:σ×X}{e:OE}(hr:fn.results= #[])(he:h1 R.1 e)(j:OI)(hO:aK=Ob R.2 j):
  AT ⟨P,⟨N,[]⟩,B,w0,S0,none⟩ (bodyPost P fn (V4 ⟨P,⟨N,[]⟩,B,w0,S0,none⟩ h1 R Ob)) .ret (e::aK) G:=fun _ _ S st=>by
 subst hO
 refine⟨st.facts.defers,_,ya P fn hr _ _,e,S,j,⟨_,rfl⟩,he,st.ext,st.sat,st.own.1.1,st.own.2.2.weak,fun k hk=>?_,fun k hk ⟨f,hf,hfk⟩=>st.own.2.1 f hf k hk hfk⟩
 rcases hk with hk|⟨f,hf,hk⟩
 ·exact(st.own.1.2 k hk).symm
 ·exact((dN.mem st.own.2.2 f hf).2 k hk).symm
def Uw{h1:σ->OE->Prop}{R:σ×X}{e:OE}(hr:fn.results= #[])(he:h1 R.1 e)(j:OI)(hO:aK=Ob R.2 j):
  AT ⟨P,⟨N,[]⟩,B,w0,S0,none⟩ (bodyPost P fn (V4 ⟨P,⟨N,[]⟩,B,w0,S0,none⟩ h1 R Ob)) .normal (e::aK) G:=fun a w S st=>PB hr he j hO a w S st
def Ev(P:Program)(f:FuncId)(ts:List Ty)(O1:List OE){α X:Type}(args:α->List Ty)(it:ItX α X)(Ob:X->OI->List OE):Prop:=
 ∀w S vs,lF w S->Aa S ts vs->dN 0 s0 w S O1->Calls P f vs.toArray w fun e w' => ∃v fp S',e= .returned v/\jh (CV O1) w S w' S' /\lF w' S' /\(Md P args it Ob v fp).p w' S' /\ ∀k,fp k->CV O1 k\/w.heap.size<=k
def V3(E:En)(O1:List OE){α X:Type}(args:α->List Ty)(it:ItX α X)(Ob:X->OI->List OE):Ending->World->Prop:=fun e w' => ∃v fp S',e= .returned v/\jh E.B E.w0 E.S0 w' S' /\lF w' S' /\(Md E.P args it Ob v fp).p w' S' /\ ∀k,fp k->CV O1 k\/E.w0.heap.size<=k
variable{O1:List OE}
def Ev.of(hf:P.funcs[f]? =some fn)(M:fn.body=some c)(hN:fn.ntmps=N)(hn:Nat.ble ts.length N=true)(h: ∀w0 S0,CG ⟨P,⟨N,[]⟩,CV O1,w0,S0,none⟩ (bodyPost P fn (V3 ⟨P,⟨N,[]⟩,CV O1,w0,S0,none⟩ O1 args it Ob)) c O1 (vh 0 ts)):Ev P f ts O1 args it Ob:=by
 subst hN
 intro w S vs hs hv ho
 exact lE.1 (GP (F:=fw none) (n:=0) hf M trivial (h w S _ w S ⟨jh.refl _ _ _,hs,mw ho fun f hf k hk=> .inr ⟨f,hf,hk⟩,oR hv _ (rL hn)⟩))
def Uv{k:Nat}(hr:fn.results= #[.tmp k])(hk:cL G k=some (tV v)):
  AT ⟨P,⟨N,[]⟩,CV O1,w0,S0,none⟩ (bodyPost P fn (V3 ⟨P,⟨N,[]⟩,CV O1,w0,S0,none⟩ O1 args it Ob)) .ret (Md P args it Ob v fp::aK) G:=fun a w S st=>by
 have hv:a.tmps.getD k undef=v:=st.facts.at_ k _ hk
 exact⟨st.facts.defers,_,o9 P fn k hr _ _,v,fp,S,by rw [hv],st.ext,st.sat,st.own.1.1,fun k hk=>(st.own.1.2 k hk).symm⟩
variable{ι:Type}{O2:ι->List OE}{ats:Array TypeId}{g:Option (Nat×Bool)}
section
def Q4{xs:List Operand}(O1 Or:List OE)(hO:aK=O1++Or)(hc:aj E.P f=true)(hs:Ev E.P f ts O1 args it Ob)(V:kp E.N G xs ts)(hd:Nat.blt d E.N.n=true)(k: ∀v fp,RG E ops aJ rest (Md E.P args it Ob v fp::Or) ((d,tV v)::G)):
  RG E ops aJ (⟨some d,.call ⟨.value (.func f),xs.toArray,ats⟩,ty,pos,after,none⟩::rest) aK G:= .of rfl fun a w S st=>by
 subst hO
 have hr:(execOp a.eval ⟨some d,.call ⟨.value (.func f),xs.toArray,ats⟩,ty,pos,after,none⟩).run E.P w= .ok (.enter f (xs.map a.eval).toArray) w:=by
  simp [execOp,resolve,Act.eval,Deferred.ofValue,invoke,fZ hc]
 refine⟨fun c h=>(by cases h),?_⟩
 rw [hr]
 refine(hs w S _ st.sat (V.tys st.facts) (pO st.own).1.weak).mono fun e w' ⟨v,fp,S',he,I,K,h3,h4⟩=>⟨_,he,?_⟩
 have st' :=st.turn (O2:=[Md E.P args it Ob v fp]) I K ⟨⟨h3,fun _ _=> .inl (lG _)⟩,fun _ h=>(by cases h),trivial⟩ (fun k ⟨f,hf,hk⟩=>by
  rw [EE.1 hf]at hk;exact h4 k hk)
 exact k v fp _ _ S' (st'.put hd rfl)
def MT{O2:List OE}{cts:List Ty}{caps:List Operand}(hO:aK=O1++O2)(hc:aj E.P fid=true)(hs:EA E.P fid args it Ob O1 cts)(hcap:kp E.N G caps cts)(hd:Nat.blt d E.N.n=true)(k: ∀v fp,RG E ops aJ rest (Md E.P args it Ob v fp::O2) ((d,tV v)::G)):
  RG E ops aJ (⟨some d,.makeFunc (.func fid) #[] caps.toArray,ty,pos,after,none⟩::rest) aK G:= .of rfl fun a w S st=>by
 subst hO
 have hr:(execOp a.eval ⟨some d,.makeFunc (.func fid) #[] caps.toArray,ty,pos,after,none⟩).run E.P w= .ok (.value (.func (.func fid) #[] (caps.map a.eval).toArray)) w:=by simp [execOp,Instr.makeFunc]
 refine⟨fun c h=>(by cases h),?_⟩
 rw [hr]
 obtain⟨I,K,h3⟩:=pO st.own
 have hcv:=hcap.tys st.facts
 refine k (.func (.func fid) #[] (caps.map a.eval).toArray) (CV O1) _ _ S ⟨st.ext,st.sat,?_,st.facts.put hd rfl⟩;refine dN.cons ⟨⟨fun b ⟨f,hf,M⟩=>f.here (dN.mem I f hf).1 b M,fid,_,rfl,hc,fun C w' S' he hC hs' =>?_⟩,fun b ⟨f,hf,M⟩=>(dN.mem I f hf).2 b M⟩ (fun f hf b ⟨g,H,M⟩=>h3 g H f hf b M) K;exact hs w' S' _ hs' (I.weak.ext he fun f hf b M=>hC b ⟨f,hf,M⟩) (hcv.mono he.keep)
end

def vb(l:Nat)(r:Loop)(st:LoopState)(pd:Option Code):OE where
 fp:=fun k=>k=l
 p:=fun w S=>S l=none/\w.heap[l]? =some (.loop {r with state:=st,pending:=pd})
 here:=by
  intro w S h k hk
  subst hk
  exact(yL.1 h.2).1
 kept:=by
  intro C w w' S S' h k hC
  have hlt:=(yL.1 h.2).1
  exact⟨by rw [k.old l hlt (hC l rfl)];exact h.1,by rw [k.heap l hlt (hC l rfl)];exact h.2⟩
def Z9(j:Option Nat):LoopState:=if j.isNone then .ready else .done
def Xu(E:En)(l:Nat)(rec:Loop){σ ι:Type}(Oi:ι->List OE)(dat:ι->σ)(jc:Nat->Code)(r:Option Nat×σ):Ending->World->Prop:=fun en w' =>
 ∃i S',en= .returned (.bool r.1.isNone)/\dat i=r.2/\jh E.B E.w0 E.S0 w' S' /\lF w' S' /\dN E.base E.B w' S' (vb l rec (Z9 r.1) (r.1.map jc)::Oi i)
def zN{α σ:Type}(f:α->σ->Option (Option Nat×σ)):α->Option Nat×σ->Option (Bool×(Option Nat×σ)):=fun x s=>
 match s.1 with
 |some _=>none
 |none=>(f x s.2).map fun r=>(r.1.isNone,r)
variable{base:Nat}{done:Array Bool}{o:Oper}{q:Rp β}{rec:Loop}
section
def DL{l:Nat}{st st' :LoopState}{pd pd' :Option Code}{aK:List OE}(h:dN base B w S (vb l rec st pd::aK))(hs:lF w S):
  jh (fun k=>k=l) w S (w.putObj l (.loop {rec with state:=st',pending:=pd' })) S/\lF (w.putObj l (.loop {rec with state:=st',pending:=pd' })) S/\dN base B (w.putObj l (.loop {rec with state:=st',pending:=pd' })) S (vb l rec st' pd' ::aK):=by
 obtain⟨hno,hl⟩:=h.1.1
 have hlt:=(yL.1 hl).1
 have hext:jh (fun k=>k=l) w S (w.putObj l (.loop {rec with state:=st',pending:=pd' })) S:=⟨rfl,rfl,rfl,fa _,by simp,fun k _ hk=>World.putObj_heap_other hk,SH.le_refl _,fun _ _ _=>rfl⟩
 refine⟨hext,hs.same fun k o hk=>?_,⟨⟨hno,World.putObj_heap_same hlt⟩,h.1.2⟩,h.2.1,h.2.2.ext hext fun g H k hk hkl=>h.2.1 g H k hkl hk⟩
 have hne:k≠l:=fun e=>by subst e;rw [hno]at hk;cases hk
 exact World.putObj_heap_other hne
def Lb{l:Nat}{body:Code}{R:Ending->World->Prop}(h:CG E (roundPost E.P l R) body (vb l rec .busy none::aK) G):AT E (ZJ E l body R) .normal (vb l rec .ready none::aK) G:=fun a w S st=>by
 obtain⟨I,K,h3⟩:=DL (st' := .busy) (pd' :=none) st.own st.sat
 obtain⟨_,hl⟩:=st.own.1.1
 exact⟨_,run_beginRound hl rfl,h a _ S ⟨st.ext.step I (fun c hc=>st.own.1.2 c hc),K,h3,st.facts⟩⟩
def zC{l:Nat}{Oi:ι->List OE}{dat:ι->σ}{jc:Nat->Code}{s2:σ}(i:ι)(hi:dat i=s2)(hO:aK=Oi i):AT E (roundPost E.P l (Xu E l rec Oi dat jc (none,s2))) .normal (vb l rec .busy none::aK) G:=fun a w S st=>by
 subst hO
 obtain⟨I,K,h3⟩:=DL (st' := .ready) (pd' :=none) st.own st.sat
 obtain⟨_,hl⟩:=st.own.1.1
 exact⟨_,_,run_endRound none hl,i,S,rfl,hi,st.ext.step I (fun c hc=>st.own.1.2 c hc),K,h3⟩
def EC{l:Nat}{Oi:ι->List OE}{dat:ι->σ}{jc:Nat->Code}{s2:σ}(q:Nat)(hq:jc q= .ret)(i:ι)(hi:dat i=s2)(hO:aK=Oi i):AT E (roundPost E.P l (Xu E l rec Oi dat jc (some q,s2))) .ret (vb l rec .busy none::aK) G:=fun a w S st=>by
 subst hO
 obtain⟨I,K,h3⟩:=DL (st' := .done) (pd' :=some .ret) st.own st.sat
 obtain⟨_,hl⟩:=st.own.1.1
 exact⟨_,_,run_endRound (some .ret) hl,i,S,rfl,hi,st.ext.step I (fun c hc=>st.own.1.2 c hc),K,by rw [Option.map_some,hq];exact h3⟩
def KY(Oi:ι->List OE)(dat:ι->σ)(jc:Nat->Code){f:α->σ->Option (Option Nat×σ)}{R:(Option Nat×σ)×X}{g:Operand}{ps:List Nat}{assign body:Code}(hr:E.r=none)(H:bk E.N G g (tV v))(i0:ι)(hO:aK=Md E.P args it Ob v fp::Oi i0)(hit:it (Option Nat×σ) (zN f) (none,dat i0)=some R)(hps: ∀x,ps.length=(args x).length)(hpn:(ps.all fun d=>Nat.blt d E.N.n)=true)(hbody: ∀(i:ι) (x:α) (r:Option Nat×σ),f x (dat i)=some r-> ∀(l:Nat) (rec:Loop) (w1:World) (S1:SH) (B1:Nat->Prop),
   CG ⟨E.P,⟨E.N.n,[]⟩,B1,w1,S1,some l⟩ (ZJ ⟨E.P,⟨E.N.n,[]⟩,B1,w1,S1,some l⟩ l body (Xu ⟨E.P,⟨E.N.n,[]⟩,B1,w1,S1,some l⟩ l rec Oi dat jc r)) assign (vb l rec .ready none::Oi i) (Kg ps (args x) G))(k: ∀i' j,dat i' =R.1.2-> ∀b,(R.1.1=none->AT ⟨E.P,⟨E.N.n,AL b::E.N.ds⟩,E.B,E.w0,E.S0,E.r⟩ aJ .normal (E9 b::(Ob R.2 j++Oi i')) G)/\
   (∀q,R.1.1=some q->CG ⟨E.P,⟨E.N.n,AL b::E.N.ds⟩,E.B,E.w0,E.S0,E.r⟩ aJ (jc q) (E9 b::(Ob R.2 j++Oi i')) G)):CG E aJ (.rangeFunc g ps.toArray assign body) aK G:=fun a w S st=>by
 subst hO
 refine wpIn_rangeFunc fun fn _=>?_
 have hr0:(fw E.r).round=none:=hr
 have hfw:fw E.r=fw none:=by rw [hr]
 rw [hr0]
 obtain⟨rec,hrec⟩: ∃rec:Loop,rec={state:= .ready,pending:=none,fn,tmps:=a.tmps,params:=ps.toArray,assign,body,defers:=w.heap.size}:=⟨_,rfl⟩
 obtain⟨x1,x2,x3⟩:=iD (w:=w) (.deferred (some [])) st.sat
 obtain⟨y1,y2,y3⟩:=iD (w:=w.alloc (.deferred (some []))) (.loop rec) x2
 obtain⟨W1,hW1⟩: ∃W1,(w.alloc (.deferred (some []))).alloc (.loop rec)=W1:=⟨_,rfl⟩
 rw [hW1]at y1 y2
 have hsz:(w.alloc (.deferred (some []))).heap.size=w.heap.size+1:=by simp
 rw [hsz]at y3
 have hext:jh s0 w S W1 S:=x1.trans y1
 have hL1:W1.heap[w.heap.size+1]? =some (.loop rec):=by
  rw [<-hW1];have:=World.alloc_heap_new (w.alloc (.deferred (some []))) (.loop rec);rwa [hsz]at this
 have hK1:W1.heap[w.heap.size]? =some (.deferred (some [])):=by
  rw [y1.heap w.heap.size (by omega) (fun h=>h)];exact World.alloc_heap_new w _
 have hW1s:W1.heap.size=w.heap.size+2:=by rw [<-hW1];simp
 have hg' :a.eval g=v:=H S a st.facts
 obtain⟨hit1,hap,hoi⟩:=st.own
 obtain⟨⟨hfp,gf,cap,hv,hcal,hcall⟩,hbase⟩:=hit1
 have hbl:=st.base_le
 have hoi1:dN E.base E.B W1 S (Oi i0):=hoi.ext0 hext
 have hlt: ∀f∈Oi i0,∀k,f.fp k->k<w.heap.size:=fun f hf k hk=>f.here (dN.mem hoi f hf).1 k hk
 refine⟨w.heap.size+1,[AL w.heap.size],W1,{target:= .fn (.func gf) cap,args:= #[.func (.yield (w.heap.size+1)) #[] #[]]},W1,gf,
  #[.func (.yield (w.heap.size+1)) #[] #[]]++cap,W1,?_,?_,fun _ _=>trivial,?_,fun h=>(by cases h),?_⟩
 ·rw [<-hW1,hrec];exact run_enterLoop_outer _ _ _ _ _
 ·simp only [resolve,hg',hv]
  simp [go_sem]
 ·simp [invoke,go_sem,fZ hcal]
 rw [hfw]
 refine lE.2 ?_
 have hyld:Yld E.P args (zN f) (fun s e=> ∃i,dat i=s.2/\e=tu S (vb (w.heap.size+1) rec (Z9 s.1) (s.1.map jc)::Oi i)) (.func (.yield (w.heap.size+1)) #[] #[]):=by
  refine⟨_,rfl,?_⟩
  rintro x ⟨j0,s⟩ r hy e ⟨i,hi,rfl⟩ w2 S2 vs hs2 ⟨hle,hown⟩ hvs
  cases j0 with
  |some q=>unfold zN at hy;cases hy
  |none=>
  have hi' :dat i=s:=hi
  subst hi'
  obtain⟨r2,hs2',rfl⟩: ∃r2,f x (dat i)=some r2/\r=(r2.1.isNone,r2):=by
   unfold zN at hy
   cases hf:f x (dat i)with
   |none=>simp only [hf]at hy;cases hy
   |some s2=>simp only [hf]at hy;exact⟨s2,rfl,by simpa using hy.symm⟩
  have hl2:=hown.1.1.2
  have hvl:=hvs.length
  have hyr:=run_yield (P:=E.P) (args:=vs.toArray) hl2 (by rw [hrec];simp [hps x,hvl])
  refine⟨_,_,_,_,hyr,roundIn_of_wpIn trivial ?_⟩
  have hown' :dN 0 s0 w2 S2 (vb (w.heap.size+1) rec .ready none::Oi i):=hown
  have:=hbody i x r2 hs2' (w.heap.size+1) rec w2 S2 (fun k=> ∃f∈vb (w.heap.size+1) rec .ready none::Oi i,f.fp k)
   {tmps:=(ps.zip vs).foldl (fun t (p:Nat×Value)=>t.setIfInBounds p.1 p.2) a.tmps,defers:=[]} w2 S2
   ⟨jh.refl _ _ _,hs2,mw hown' fun f hf k hk=> .inr ⟨f,hf,hk⟩,CX ps (args x) vs ⟨a.tmps,[]⟩ G (hps x) hvs hpn ⟨st.facts.size,rfl,fun j t h=>t.mono hle (st.facts.at_ j t h)⟩⟩
  rw [hrec]
  rw [hrec]at this
  rw [zK]
  refine wpIn_mono this ?_
  intro e a3 w3 hp
  cases e with
  |normal=>
   obtain⟨w4,hb4,hp4⟩:=hp
   refine⟨w4,hb4,wpIn_mono hp4 ?_⟩
   have hR: ∀en w',Xu ⟨E.P,⟨E.N.n,[]⟩,fun k=> ∃f∈vb (w.heap.size+1) rec .ready none::Oi i,f.fp k,w2,S2,some (w.heap.size+1)⟩ (w.heap.size+1) rec Oi dat jc r2 en w' ->
     ∃e' S',en= .returned (.bool r2.1.isNone)/\(∃i',dat i' =r2.2/\e' =tu S (vb (w.heap.size+1) rec (Z9 r2.1) (r2.1.map jc)::Oi i'))/\jh (tu S (vb (w.heap.size+1) rec .ready none::Oi i)).fp w2 S2 w' S' /\lF w' S' /\e'.p w' S' /\ ∀k,e'.fp k->(tu S (vb (w.heap.size+1) rec .ready none::Oi i)).fp k\/w2.heap.size<=k:=by
    rintro en w' ⟨i',S',I,K,h3,h4,h5⟩
    exact⟨_,S',I,⟨i',K,rfl⟩,h3,h4,⟨SH.le_trans hle h3.keep,h5.weak⟩,fun k ⟨f,hf,hk⟩=>((dN.mem h5 f hf).2 k hk).symm⟩
   rw [hrec]at hR
   intro e5 a5 w5 hp5
   cases e5<;>simp only [roundPost]at hp5 ⊢
   case normal=>obtain⟨v5,w6,I,K⟩:=hp5;exact⟨v5,w6,I,hR _ _ K⟩
   case ret=>obtain⟨v5,w6,I,K⟩:=hp5;exact⟨v5,w6,I,hR _ _ K⟩
   case exit=>obtain⟨v5,w6,I,K⟩:=hp5;exact⟨v5,w6,I,hR _ _ K⟩
   case goto=>obtain⟨v5,w6,I,K⟩:=hp5;exact⟨v5,w6,I,hR _ _ K⟩
  |_=>exact hp
 have hrecE:W1.heap[w.heap.size+1]? =some (.loop {rec with state:= .ready,pending:=none}):=by rw [hL1,hrec]
 have he0:(tu S (vb (w.heap.size+1) rec .ready none::Oi i0)).p W1 S:=⟨SH.le_refl _,⟨⟨y3,hrecE⟩,fun _ _=> .inl (lG _)⟩,fun f hf k hk hfk=>by have:=hlt f hf k hfk;have hk' :k=w.heap.size+1:=hk;omega,hoi1.weak⟩
 have hap0: ∀k,(tu S (vb (w.heap.size+1) rec .ready none::Oi i0)).fp k-> ¬fp k:=by
  rintro k ⟨f,hf,hk⟩ hfk
  rcases gW.1 hf with rfl|hf
  ·have:=hfp k hfk;have hk' :k=w.heap.size+1:=hk;omega
  ·exact hap f hf k hfk hk
 refine(hcall s0 W1 S hext (fun _ _ h=>h) y2 _ (zN f) (none,dat i0) R hit _ _ hyld _ ⟨i0,rfl,rfl⟩ he0 hap0).mono ?_
 rintro en w2 ⟨e',S2,j,⟨vr,rfl⟩,⟨i',hi',rfl⟩,hx2,hs2,⟨hle2,hown2⟩,hob,hnew,hapo⟩
 have hl2:=hown2.1.1.2
 have hnb: ∀k,(E9 w.heap.size).fp k-> ¬((tu S (vb (w.heap.size+1) rec .ready none::Oi i0)).fp k\/fp k):=by
  rintro k hk h
  have hk' :k=w.heap.size:=hk
  subst hk'
  rcases h with⟨f,hf,hfk⟩|h
  ·rcases gW.1 hf with rfl|hf
   ·have hk' :w.heap.size=w.heap.size+1:=hfk;omega
   ·have:=hlt f hf _ hfk;omega
  ·have:=hfp _ h;omega
 have hBin: ∀k,((tu S (vb (w.heap.size+1) rec .ready none::Oi i0)).fp k\/fp k)->E.w0.heap.size<=k\/E.B k:=by
  rintro k (⟨f,hf,hk⟩|h)
  ·rcases gW.1 hf with rfl|hf
   ·left;have hk' :k=w.heap.size+1:=hk;have:E.w0.heap.size<=w.heap.size:=hbl;omega
   ·exact(dN.mem hoi f hf).2 k hk
  ·exact hbase k h
 have hBn: ∀k,((tu S (vb (w.heap.size+1) rec (Z9 R.1.1) (R.1.1.map jc)::Oi i')).fp k\/CV (Ob R.2 j) k)->E.base<=k\/E.B k:=fun k hk=>(hnew k hk).elim (hBin k) (fun h=> .inl (by have I:E.base<=w.heap.size:=hbl;have K:W1.heap.size<=k:=h;omega))
 have hb2:dN E.base E.B w2 S2 (vb (w.heap.size+1) rec (Z9 R.1.1) (R.1.1.map jc)::(Ob R.2 j++Oi i')):=by
  obtain⟨q1,q2,q3⟩:=hown2
  refine dN.cons ⟨q1.1,fun k hk=>hBn k (.inl ⟨_,mp ..,hk⟩)⟩ (fun f hf=>?_) (Ey (mw hob fun f hf k hk=>hBn k (.inr ⟨f,hf,hk⟩)) (mw q3 fun f hf k hk=>hBn k (.inl ⟨f,lT _ hf,hk⟩)) fun e he f hf k hek hfk=>hapo k ⟨f,lT _ hf,hfk⟩ ⟨e,he,hek⟩)
  rcases BG.1 hf with hf|hf
  ·exact fun k hk hfk=>hapo k ⟨_,mp ..,hk⟩ ⟨f,hf,hfk⟩
  ·exact q2 f hf
 have hend:Z9 R.1.1≠ .busy:=by unfold Z9;split<;>simp
 obtain⟨z1,z2,z3⟩:=DL (st' := .exhausted) (pd' :=R.1.1.map jc) hb2 hs2
 have hdf:(E9 w.heap.size).p W1 S:=⟨x3,hK1⟩
 have vi:(E9 w.heap.size).p w2 S2:=(E9 w.heap.size).kept hdf hx2 hnb
 have hd3:=(E9 w.heap.size).kept vi z1 (fun k hk hkl=>by have I:k=w.heap.size:=hk;have K:k=w.heap.size+1:=hkl;omega)
 have stE:St ⟨E.P,⟨E.N.n,AL w.heap.size::E.N.ds⟩,E.B,E.w0,E.S0,E.r⟩ (E9 w.heap.size::(Ob R.2 j++Oi i')) G {a with defers:=[AL w.heap.size]++a.defers} (w2.putObj (w.heap.size+1) (.loop {rec with state:= .exhausted,pending:=R.1.1.map jc})) S2:=by
  refine⟨((st.ext.step0 hext).step hx2 hBin).step z1 (fun c hc=>z3.1.2 c hc),z2,?_,?_⟩
  ·refine dN.cons ⟨hd3,fun k hk=> .inl (by have I:k=w.heap.size:=hk;rw [I];exact hbl)⟩ (fun f hf k hk hfk=>?_) z3.2.2
   have I:k=w.heap.size:=hk
   have K:((tu S (vb (w.heap.size+1) rec (Z9 R.1.1) (R.1.1.map jc)::Oi i')).fp k\/CV (Ob R.2 j) k):=by
    rcases BG.1 hf with hf|hf
    ·exact .inr ⟨f,hf,hfk⟩
    ·exact .inl ⟨f,lT _ hf,hfk⟩
   rcases hnew k K with h|h
   ·exact hnb k hk h
   ·omega
  ·refine⟨st.facts.size,?_,fun j t hj=>t.mono (SH.le_trans (SH.le_refl S) hle2) (st.facts.at_ j t hj)⟩
   show AL w.heap.size::a.defers=_
   rw [st.facts.defers]
 obtain⟨k1,k2⟩:=k i' j hi' w.heap.size
 refine⟨_,_,run_endLoop hl2 hend,?_⟩
 cases hR1:R.1.1 with
 |none=>
  rw [hR1]at stE
  exact k1 hR1 _ _ S2 stE
 |some q=>
  rw [hR1]at stE
  have:=k2 q hR1 _ _ S2 stE
  show(jc q).wpIn (fw none) 0 E.P aJ _ _
  have hE:fw (⟨E.P,⟨E.N.n,AL w.heap.size::E.N.ds⟩,E.B,E.w0,E.S0,E.r⟩:En).r=fw none:=hfw
  rw [hE]at this
  exact this
end

def oiL(l:List (Option Nat×Nat)):OI:={h:=fun n=>l.getD n (none,0)}
def gq(P:Program){A X ρ:Type}(args:A->List Ty)(Ob:X->OI->List OE)(res:ρ->Ty)(f:X->A->Option (ρ×X)):Ty where
 p:=fun S v=> ∀x y R,f x y=some R-> ∃fid fst cap,v= .func (.func fid) fst cap/\aj P fid=true/\ ∀i w S' vs,SH.le S S' ->lF w S' ->Aa S' (args y) vs->dN 0 s0 w S' (Ob x i)->
  Calls P fid (fst++vs.toArray++cap) w fun en w' => ∃j v S'',en= .returned v/\(res R.1).p S'' v/\jh (CV (Ob x i)) w S' w' S'' /\lF w' S'' /\dN 0 s0 w' S'' (Ob R.2 j)/\ ∀k,CV (Ob R.2 j) k->CV (Ob x i) k\/w.heap.size<=k
 mono:=fun h k x y R hf=>by
  obtain⟨fid,fst,cap,e,hc,hs⟩:=k x y R hf
  exact⟨fid,fst,cap,e,hc,fun i w S' vs hle=>hs i w S' vs (SH.le_trans h hle)⟩
variable{A ρ:Type}{res:ρ->Ty}
def JT{args:A->List Ty}:(gq P args Ob res (fun _ _=>none)).p S v:=fun _ _ _ h=>by cases h
variable{dst:Option Tmp}
section
section
def lK{args:A->List Ty}{f:X->A->Option (ρ×X)}{p:Operand}(hc:aj E.P fid=true)(hp:bk E.N G p (tV (ba b 0)))(hs: ∀x y R,f x y=some R-> ∀i,ea E.P fid (tV (ba b 0)::args y) (Ob x i) (fun _:OI=>res R.1) (fun j=>Ob R.2 j)):
  cz E aK G ⟨dst,.makeFunc (.func fid) #[p] #[],ty,pos,after,g⟩ (gq E.P args Ob res f):= .of_pure fun a w S _ _ hf=>by
 have I:a.eval p=ba b 0:=hp S a hf
 refine⟨.func (.func fid) #[ba b 0] #[],by simp [execOp,Instr.makeFunc,I],fun x y R hR=>⟨fid,#[ba b 0],#[],rfl,hc,fun i w' S' vs _ hsat hv ho=>?_⟩⟩
 have:=hs x y R hR i w' S' (ba b 0::vs) hsat ⟨rfl,hv⟩ ho
 rw [show(#[ba b 0]++vs.toArray++ #[]:Array Value)=(ba b 0::vs).toArray from by simp]
 exact this
end
def Ec{args:A->List Ty}{f:X->A->Option (ρ×X)}{x:X}{y:A}{R:ρ×X}{i:OI}{fo:Operand}{xs:List Operand}{post:OI->List OE}(Or:List OE)(hO:aK=Ob x i++Or)(hf:bk E.N G fo (gq E.P args Ob res f))(hR:f x y=some R)(V:kp E.N G xs (args y))(hpost: ∀j,Ob R.2 j++Or=post j):
  EffOK E aK G ⟨some d,.call ⟨.value fo,xs.toArray,ats⟩,ty,pos,after,g⟩ post (fun _=>res R.1):=fun a w S hsat ho hF M=>by
 subst hO
 obtain rfl:(fun j=>Ob R.2 j++Or)=post:=funext hpost
 obtain⟨fid,fst,cap,e,hc,hs⟩:=hf S a hF x y R hR
 have hr:(execOp a.eval ⟨some d,.call ⟨.value fo,xs.toArray,ats⟩,ty,pos,after,g⟩).run E.P w= .ok (.enter fid (fst++(xs.map a.eval).toArray++cap)) w:=by
  simp [execOp,resolve,e,Deferred.ofValue,invoke,fZ hc]
 refine⟨fun c h=>(by cases h),?_⟩
 rw [hr]
 exact(hs i w S _ (SH.le_refl _) hsat (V.tys hF) (pO ho).1.weak).mono fun en w' ⟨j,v,S',he,hv,I,K,h3,h4⟩=>⟨_,he,v,S',j,rfl,I.more fun b ⟨f,hf,M⟩=>⟨f,JO _ hf,M⟩,K,dN.turn ho M I h3 h4,hv⟩
def j8{t:Ty}{Ob:OI->List OE}{i:OI}(h:ea P f ts O1 (fun _:OI=>t) (fun _=>Ob i)):ea P f ts O1 (fun _:OI=>t) Ob:=fun w S vs hs hv ho=>
 (h w S vs hs hv ho).mono fun _ _ ⟨_,v,S',I,K,h3,h4,h5,h6⟩=>⟨i,v,S',I,K,h3,h4,h5,h6⟩
section
variable{t:ι->Ty}
def fS{rvs:List ResultVar}(hr:fn.results=rvs.toArray)(I:Nat.beq rvs.length 1=false)(h:Uh P ⟨N,[]⟩ G rvs ts)(i:ι)(hO:aK=O2 i)(Y:t i=tT ts):
  AT ⟨P,⟨N,[]⟩,CV O1,w0,S0,none⟩ (bodyPost P fn (V2 ⟨P,⟨N,[]⟩,CV O1,w0,S0,none⟩ O1 t O2)) .ret aK G:=fun a w S st=>by
 obtain⟨vs,k1,k2,k3⟩:=h.run st.sat st.facts
 have hne: ¬vs.length=1:=by rw [k3];intro e;rw [e]at I;cases I
 refine⟨st.facts.defers,.tuple vs.toArray,?_,SK st rfl i hO (by rw [Y];exact⟨vs,rfl,k2⟩)⟩
 have e1:(fn.results.mapM (CH a.tmps)).run P w= .ok vs.toArray w:=by
  rw [hr,List.mapM_toArray,Sem.run_map,k1]
  rfl
 have e3:results fn a.tmps=((fn.results.mapM (CH a.tmps))>>=fun vs=>pure (if h:vs.size=1 then vs[0]else .tuple vs)):=rfl
 rw [e3,xK,e1]
 simp [Result.andThen,hne]
end
def tPV(u:Value)(t:Ty):Ty where
 p:=fun S v=>v=u/\t.p S u
 mono:=fun h ⟨e,k⟩=>⟨e,t.mono h k⟩
def St.settleP{k:Nat}{x:α}(h:St E (bx r ak b x::aK) G a w S)(hk:cL G k=some (tV (ba b 0))): ∃S',St E aK ((k,tPV (ba b 0) (bF r x))::G) a w S' :=by
 obtain⟨S',I⟩:=h.settleB hk
 have hv:a.tmps.getD k undef=ba b 0:=h.facts.at_ k _ hk
 refine⟨S',⟨I.ext,I.sat,I.own,⟨I.facts.size,I.facts.defers,fun j t hj=>?_⟩⟩⟩
 have hp:(bF r x).p S' (a.tmps.getD k undef):=I.facts.at_ k _ (by simp [cL])
 by_cases M:Nat.beq k j=true
 ·have e:=wQ M
  subst e
  simp only [cL,Nat.beq_refl,cond_true,Dm]at hj
  subst hj
  exact⟨hv,by rw [<-hv];exact hp⟩
 ·rw [Gb]at M
  have:cL ((k,bF r x)::G) j=some t:=by
   simp only [cL,M,cond_false]at hj ⊢;exact hj
  exact I.facts.at_ j t this
def Db{x:α}{e:Exit}(k:Nat)(hk:cL G k=some (tV (ba b 0)))(h:AT E aJ e aK ((k,tPV (ba b 0) (bF r x))::G)):AT E aJ e (bx r ak b x::aK) G:=
 fun a w _ st=>let⟨S',st'⟩:=st.settleP hk;h a w S' st'
def ZH{hs:HL}{x:α}(h:dN base B w S (bx (rH r hs) ak b x::aK)):dN base B w S (bx r ak b x::aK):=by
 obtain⟨⟨⟨I,c,K,h3⟩,h4⟩,h5,h6⟩:=h
 exact⟨⟨⟨I,c,K,h3.1⟩,h4⟩,h5,h6⟩
def Ft{hs:HL}{x:α}{e:Exit}(h:AT E aJ e (bx r ak b x::aK) G):AT E aJ e (bx (rH r hs) ak b x::aK) G:=fun a w S st=>h a w S (st.own_map ZH)
def EQ{N:Fr}{G:nt}{k j:Nat}{u:Value}{t:Ty}(ti:TI P ak 1 bytes false z)(hk:cL G k=some (bF rV u))(hj:cL G j=some (tPV u t)):S6 P N G (.cell k ak) t:=fun a w S hs hf=>by
 obtain⟨v,I,K⟩:=aT (r:=rV) ti rfl rfl hk a w S hs hf
 have h3:=(yR.1 K).1
 subst h3
 obtain⟨_,h4⟩:=hf.at_ j _ hj
 exact⟨v,I,h4⟩
end
variable{hx:MV β}{es:List Bool}{et kt:TypeId}{kv:κ->Value}{os:List (Option Nat×Nat)}{γ:β->Ty}
section
variable [DecidableEq κ]{k:κ}{x i v:Operand}{dst:Option Nat}
def gw{y:β}(hm:E.P.underlying t=some (.map kt et))(hk:KV E.P kt kv)(V:bk E.N G x (tV (tY b)))(hi:Pr E.N G i (kv k))(hv:bk E.N G v (γ y))(h: ∀os',RG E ops aJ rest (tZ (ED γ) kv b none os' (eO m k y)::aK) G):
  RG E ops aJ (⟨none,.insert t x i v,ty,pos,after,none⟩::rest) (tZ (ED γ) kv b none os m::aK) G:= .of rfl fun a w S st=>by
 have I:a.eval x=tY b:=V S a st.facts
 have K:a.eval i=kv k:=hi S a st.facts
 have h3:(γ y).p S (a.eval v):=hv S a st.facts
 obtain⟨⟨hp,hfp⟩,hap,hO⟩:=st.own
 obtain⟨hno,hnb,es,clock,e3,e4,hst⟩:=hp
 obtain⟨q,hq,hdk,hinj⟩:=hk
 obtain⟨os1,p1,p2,_⟩:=wD hdk hinj (k:=k) 0 e4
 have hnb1: ∀o∈os1,o.1≠some b:=fun o ho=>by
  rcases p1 o ho with h|h
  ·exact hnb o h
  ·rw [h];exact fun e=>by cases e
 obtain⟨w',os',r,x1,x2,x3,x4⟩:=TN (hx:=ED γ) (E:=E) (y:=y) (o:=(none,0)) (val:=a.eval v) st.sat hm ⟨q,hq,hdk,hinj⟩ ⟨hno,hnb1,es,clock,e3,p2,hst⟩ ⟨rfl,h3⟩ (fun e=>by cases e) (fun _ _ _ e=>by cases e)
 have hrun:(execOp a.eval ⟨none,.insert t x i v,ty,pos,after,none⟩).run E.P w= .ok .skip w' :=by simp [execOp,I,K,r]
 refine⟨fun c h=>(by cases h),?_⟩
 rw [hrun]
 have hfp' : ∀j,(tZ (ED γ) kv b none os' (eO m k y)).fp j->(tZ (ED γ) kv b none os m).fp j:=fun j hj=>by
  rcases x4 j hj with(h|⟨o,ho,e⟩)|e
  ·exact .inl h
  ·rcases p1 o ho with h|h
   ·exact .inr ⟨o,h,e⟩
   ·rw [h]at e;cases e
  ·cases e
 exact h os' _ _ S ⟨st.ext.step x1 (fun c hc=>hfp c (.inl hc)),x2,⟨⟨x3,fun j hj=>hfp j (hfp' j hj)⟩,fun f hf j hj=>hap f hf j (hfp' j hj),hO.ext x1 fun f hf j hj hjb=>hap f hf j (.inl hjb) hj⟩,st.facts⟩
end
def isT(b:Bool):Option Unit:=if b then some ()else none
def Vv{b:Bool}{u:Unit}(h:isT b=some u):b=true:=by
 unfold isT at h
 split at h
 ·assumption
 ·cases h

def KB{κ β:Type}(γ:β->Ty)(kv:κ->Value)(S:SH):List MapEntry->List (κ×β)->Prop
 |[],[]=>True
 |e::es,q::m=>e.key=kv q.1/\(γ q.2).p S e.val/\(∀p∈m,p.1≠q.1)/\KB γ kv S es m
 |_,_=>False
def CZ{κ β:Type}{γ:β->Ty}{kv:κ->Value}{S S' :SH}(h:SH.le S S'): ∀{es:List MapEntry} {m:List (κ×β)},KB γ kv S es m->KB γ kv S' es m
 |[],[],_=>trivial
 |_::_,q::_,⟨I,K,h3,h4⟩=>⟨I,(γ q.2).mono h K,h3,CZ h h4⟩
def V1{κ β:Type} [DecidableEq κ]{γ:β->Ty}{kv:κ->Value}{w:World}{S:SH}: ∀{es:List MapEntry} {os:List (Option Nat×Nat)} {m:List (κ×β)},z7 (ED γ) kv w S none es os m->KB γ kv S es m
 |[],[],[],_=>trivial
 |_::_,_::_,_::_,⟨I,K,_,h4,h5⟩=>⟨I,by rw [aS (by simp)]at K;exact K.2,h4,V1 h5⟩
def WT{κ β:Type} [DecidableEq κ]{γ:β->Ty}{kv:κ->Value}{w:World}{S:SH}: ∀{es:List MapEntry} {m:List (κ×β)},KB γ kv S es m->z7 (ED γ) kv w S none es (m.map fun _=>(none,0)) m
 |[],[],_=>trivial
 |_::_,_::_,⟨I,K,h3,h4⟩=>⟨I,by rw [aS (by simp)];exact⟨rfl,K⟩,fun _ _ _ h=>(by cases h),h3,WT h4⟩
def Rq{κ β:Type}(γ:β->Ty)(kv:κ->Value)(m:List (κ×β)):Ty where
 p:=fun S v=> ∃b es clock,v=tY b/\S b=some (.map es clock)/\KB γ kv S es.toList m
 mono:=fun h ⟨b,es,cl,e,I,K⟩=>by
  obtain⟨o',h3,h4⟩:=h b _ I
  have h5:o' = .map es cl:=h4
  subst h5
  exact⟨b,es,cl,e,h3,CZ h K⟩
def XC: ∀S v,(Rq γ kv m).p S v->v.oneCell' =true:=fun _ _ ⟨_,_,_,e,_⟩=>by rw [e];rfl
section
variable [DecidableEq κ]{k:κ}{x i:Operand}{dst:Option Nat}
def FQ{z:β}{zv:Value}(hm:E.P.underlying t=some (.map kt et))(hk:KV E.P kt kv)(hz:ZV E.P et zv)(hzt: ∀S,(γ z).p S zv)(V:bk E.N G x (Rq γ kv m))(hi:Pr E.N G i (kv k)):
  cz E aK G ⟨dst,.lookup t x i false,ty,pos,after,g⟩ (γ ((rm m k).getD z)):= .of_pure fun a w S hs ho hf=>by
 obtain⟨b,es,clock,I,h3,h4⟩:=V S a hf
 obtain⟨o',h5,h6⟩:=hs b _ h3
 have h7:o' = .map es clock:=h6
 subst h7
 obtain⟨q,hq,hd,hinj⟩:=hk
 have K:a.eval i=kv k:=hi S a hf
 obtain⟨_,_,_,h8⟩:=wD hd hinj (k:=k) 0 (WT (w:=w) h4)
 rcases h8 with⟨g1,g2⟩|⟨y,o,e,j,g1,g2,g3,g4,g5⟩
 ·refine⟨zv,by simp [execOp,I,K,pu hm hq (hd k) h5 hz g2],by rw [g1];exact hzt S⟩
 ·refine⟨e.val,by simp [execOp,I,K,pu hm hq (hd k) h5 hz g4],by rw [g1];exact g3.2⟩
def St.settleMp{j:Nat}(h:St E (tZ (ED γ) kv b none os m::aK) G a w S)(hk:cL G j=some (tV (tY b))): ∃S',St E aK ((j,Rq γ kv m)::G) a w S' :=by
 obtain⟨⟨hn,_,es,clock,h3,h4,_⟩,_⟩:=h.own.1
 obtain⟨h8,hle,_,_⟩:=CF h (.inl rfl) h3 (yi _) hn
 have hv:a.tmps.getD j undef=tY b:=h.facts.at_ j _ hk
 exact⟨_,h8.cons ⟨b,es,clock,hv,by simp [SH.set],CZ hle (V1 h4)⟩⟩
def Pz{e:Exit}(j:Nat)(hk:cL G j=some (tV (tY b)))(h:AT E aJ e aK ((j,Rq γ kv m)::G)):AT E aJ e (tZ (ED γ) kv b none os m::aK) G:=
 fun a w _ st=>let⟨S',st'⟩:=st.settleMp hk;h a w S' st'
end
def Ba(P:Program){α β:Type}(args:α->List Ty)(res:β->Ty)(f:α->Option β):Ty where
 p:=fun S v=> ∀x y,f x=some y-> ∃fid cap,v= .func (.func fid) #[] cap/\aj P fid=true/\ ∀w S' vs,SH.le S S' ->lF w S' ->Aa S' (args x) vs->
  Calls P fid (vs.toArray++cap) w fun e w' => ∃v S'',e= .returned v/\jh s0 w S' w' S'' /\lF w' S'' /\(res y).p S'' v
 mono:=fun h k x y hxy=>by
  obtain⟨f,cap,e,hc,k⟩:=k x y hxy
  exact⟨f,cap,e,hc,fun w S' vs hle=>k w S' vs (SH.le_trans h hle)⟩
def qV{N:Fr}{res:β->Ty}{f:α->Option β}{x:Operand}(h:bk N G x (fL P args res f)):bk N G x (Ba P args res f):=fun S a hf u y hxy=>by
 obtain⟨fid,cap,e,hc,k⟩:=h S a hf
 exact⟨fid,cap,e,hc,fun w S' vs=>k u y hxy w S' vs⟩
def Rr{res:β->Ty}:(Ba P args res (fun _:α=>(none:Option β))).p S v:=fun _ _ h=>by cases h
def Kl{res:β->Ty}{f:α->Option β}{fo:Operand}{x:α}{y:β}{xs:List Operand}(hfo:bk E.N G fo (Ba E.P args res f))(h:f x=some y)(V:kp E.N G xs (args x)):
  cz E aK G ⟨dst,.call ⟨.value fo,xs.toArray,ats⟩,ty,pos,after,g⟩ (res y):=fun a w S hS _ hF=>by
 obtain⟨fid,cap,e,hc,hs⟩:=hfo S a hF x y h
 have hr:(execOp a.eval ⟨dst,.call ⟨.value fo,xs.toArray,ats⟩,ty,pos,after,g⟩).run E.P w= .ok (.enter fid ((xs.map a.eval).toArray++cap)) w:=by
  simp [execOp,resolve,e,Deferred.ofValue,invoke,fZ hc]
 refine⟨fun c h=>(by cases h),?_⟩
 rw [hr]
 exact(hs w S _ (SH.le_refl _) hS (V.tys hF)).mono fun e w' ⟨v,S',he,I,K,h3⟩=>⟨v,he,v,S',rfl,I,K,h3⟩

def GS:Nat:=1000000
def tGl{α:Type}(r:Rp α)(x:α)(g:Nat):Ty where
 p:=fun S _=>(bF r x).p S (ba g 0)
 mono:=fun h k=>(bF r x).mono h k
def abH{x:α}{g:Nat}{vs:List Value}(hs:lF w S)(H:(g,vs)∈glob)(hr: ∀S,r.rc S vs x):(bF r x).p S (ba g 0):=by
 obtain⟨c,ak,fr,I,K⟩:=hs.gl _ H
 refine⟨g,0,c,ak,fr,rfl,I,?_⟩
 rw [xM,<-r.len (hr S)]
 have h3:c.toList.take vs.length=vs:=K
 rw [h3]
 exact hr S
variable{ix:Nat}
section
def VI{N:Fr}{t:Ty}(hf:eJ N S a G)(h: ∀v,t.p S v):eJ N S a ((GS,t)::G):=⟨hf.size,hf.defers,fun j u hj=>by
 unfold cL at hj
 cases M:Nat.beq GS j with
 |true=>
  rw [M]at hj
  simp only [cond_true,Dm]at hj
  rw [<-hj];exact h _
 |false=>
  rw [M]at hj
  simp only [cond_false]at hj
  exact hf.at_ j u hj⟩
def Uk{x:α}{v:Nat}{vs:List Value}{t:Ty}(H:(v,vs)∈glob)(hr: ∀S,r.rc S vs x)(h:cz E aK ((GS,tGl r x v)::G) o t):cz E aK G o t:=fun a w S hs ho hf=>
 h a w S hs ho (VI hf fun _=>abH hs H hr)
def adF{N:Fr}{x:α}{v:Nat}:bk N ((GS,tGl r x v)::G) (.global v) (bF r x):=fun S a hf=>hf.at_ GS (tGl r x v) (by simp [cL])
def OJ(s:C0)(i:Int):Option Int:=(di s i).map fun b=>(b.toNat:Int)
def Bl{s:C0}{x ix:Operand}{i y:Int}(Y:E.P.underlying t=some .string)(V:bk E.N G x (tD rS s))(hi:bk E.N G ix (tD (rI k) i))(hy:OJ s i=some y):
  cz E aK G ⟨dst,.index t x ix,ty,pos,after,g⟩ (tD (rI .u8) y):= .of_pure fun a w S _ _ hf=>by
 have I:a.eval x= .string ⟨s.toArray⟩:=CA.1 (V S a hf)
 have K:a.eval ix= .int k i:=dL.1 (hi S a hf)
 unfold OJ at hy
 cases M:di s i with
 |none=>rw [M]at hy;cases hy
 |some b=>
  rw [M]at hy
  obtain⟨g1,g2⟩:=m9 M
  have hlt:i.toNat<s.length:=(pP.1 g2).1
  have e:y=(b.toNat:Int):=by simpa using hy.symm
  have hsz:(ByteArray.mk s.toArray).size=s.length:=by simp [ByteArray.size]
  refine⟨.int .u8 y,?_,dL.2 rfl⟩
  have h3:=run_index_string (P:=E.P) w t ⟨s.toArray⟩ k i Y
  rw [dif_pos (by rw [hsz];omega)]at h3
  have h4:(ByteArray.mk s.toArray)[i.toNat]'(by rw [hsz];exact hlt)=b:=by
   have:=(pP.1 g2).2
   show s.toArray[i.toNat]=b
   simpa using this
  simp only [execOp,I,K,xK,h3,zS,Sem.run_pure]
  rw [h4,e]
def ZB(a b:C0):Int:=Lib.compareBytes a b
def XG{s u:C0}{x y:Operand}(hf:E.P.funcs[f]? =some fn)(hname:(fn.name== "runtime.NumGoroutine")=false)(M:fn.body.isNone=true)(hn:Extern.findNext fn=none)(he:Extern.find fn=some Extern.BytealgCompare.compare)(V:bk E.N G x (tD rS s))(hy:bk E.N G y (tD rS u)):
  cz E aK G ⟨dst,.call ⟨.value (.func f),#[x,y],ats⟩,ty,pos,after,g⟩ (tD (rI .i64) (ZB s u)):= .of_pure fun a w S _ _ hF=>by
 have I:a.eval x= .string ⟨s.toArray⟩:=CA.1 (V S a hF)
 have K:a.eval y= .string ⟨u.toArray⟩:=CA.1 (hy S a hF)
 refine⟨.int .i64 (ZB s u),?_,dL.2 rfl⟩
 have h3:=run_callFunc_extern hf hname M hn he #[.string ⟨s.toArray⟩,.string ⟨u.toArray⟩] w
 rw [Lib.run_compareString]at h3
 have h0:a.eval (.func f)= .func (.func f) #[] #[]:=rfl
 simp [execOp,resolve,h0,Deferred.ofValue,invoke,I,K,h3,ZB,Result.andThen]
end
open Go.MapKept (Stamped)
section
variable [DecidableEq κ]
end
section
variable [DecidableEq κ]{r:Nat}{left:List κ}{cur:Option κ}{k:κ}{x i v:Operand}{dst:Option Nat}
end
open Go.RowKit


abbrev NG:=Nat->(Option Nat×Nat)×(Nat->Option Nat×Nat)
inductive NPl where
 |o
 |i (k:Nat)
 |l (k j:Nat)
section
def vi(q:Nat->Option Nat×Nat)(zs:List (List α)):List Value:=zs.mapIdx fun j z=>bw (q j).1 (q j).2 z.length
def hd1(prj:β->List (List α))(g:NG)(x:List β):List Value:=x.mapIdx fun k y=>bw (g k).1.1 (g k).1.2 (prj y).length
def nsB(prj:β->List (List α))(l:Option Nat)(g:NG)(x:List β)(h:Option (Nat×Nat)):NPl->Option Nat
 | .o=>l
 | .i k=>(x[k]?).bind fun _=>(g k).1.1
 | .l k j=>if h=some (k,j)then none else((x[k]?).bind fun y=>(prj y)[j]?).bind fun _=>((g k).2 j).1
structure nstP(prj:β->List (List α))(r:Rp α)(T1 T2 T3:TypeId)(l:Option Nat)(cap n:Nat)(g:NG)(x:List β)(h:Option (Nat×Nat))(w:World)(S:SH):Prop where
 len:x.length=n
 out:Fi false rV T1 l cap (hd1 prj g x) w S
 inn: ∀k y,x[k]? =some y->Fi false rV T2 (g k).1.1 (g k).1.2 (vi (g k).2 (prj y)) w S
 lvs: ∀k y j z,x[k]? =some y->(prj y)[j]? =some z->h≠some (k,j)->Fi true r T3 ((g k).2 j).1 ((g k).2 j).2 z w S
 inj: ∀s t b,nsB prj l g x h s=some b->nsB prj l g x h t=some b->s=t
variable{prj:β->List (List α)}{T1 T2 T3:TypeId}{l:Option Nat}{g:NG}{x:List β}{h:Option (Nat×Nat)}{w' :World}
end
section
variable{prj:β->List (List α)}{T1 T2 T3:TypeId}{l:Option Nat}{g:NG}{x:List β}{h:Option (Nat×Nat)}
variable{gd:Option (Nat×Bool)}
open Classical in
noncomputable def afT(w:World)(S:SH)(P:Nat->Prop):SH:=fun b=>if P b then w.heap[b]? else S b
def g0(hs:List (Option Nat×Nat)):NG:=fun k=>(hs.getD k (none,0),fun _=>(none,0))
def tsB(l:Option Nat)(q:Nat->Option Nat×Nat)(zs:List (List α))(h:Option Nat):Option Nat->Option Nat
 |none=>l
 |some j=>if h=some j then none else(zs[j]?).bind fun _=>(q j).1
structure rowP(r:Rp α)(T2 T3:TypeId)(l:Option Nat)(cap n:Nat)(q:Nat->Option Nat×Nat)(zs:List (List α))(h:Option Nat)(w:World)(S:SH):Prop where
 len:zs.length=n
 inn:Fi false rV T2 l cap (vi q zs) w S
 lvs: ∀j z,zs[j]? =some z->h≠some j->Fi true r T3 (q j).1 (q j).2 z w S
 inj: ∀s t b,tsB l q zs h s=some b->tsB l q zs h t=some b->s=t
variable{q:Nat->Option Nat×Nat}{zs:List (List α)}{k:Option Nat}
end

def Jz(es:List Bool)(done:Array Bool):List Nat:=(List.range es.length).filter fun k=>(es[k]?).getD false&&done.getD k false
def XV(es:List Bool)(i:Nat)(s:List Nat):List Nat:=(List.range es.length).filter fun k=>Nat.beq k i||s.contains k
def eqL:List Nat->List Nat->Bool
 |[],[]=>true
 |a::s,b::t=>Nat.beq a b&&eqL s t
 |_,_=>false
def QP: ∀{s t:List Nat},eqL s t=true->s=t
 |[],[],_=>rfl
 |a::s,b::t,h=>by
  simp only [eqL,gN]at h
  rw [wQ h.1,QP h.2]
 |[],_::_,h=>by cases h
 |_::_,[],h=>by cases h
def UA:List (List Nat×((Nat->OI)->List OE))->List Nat->(Nat->OI)->List OE
 |[],_,_=>[]
 |p::r,s,σ=>bif eqL p.1 s then p.2 σ else UA r s σ
def DS{k:Nat}:k∈Jz es done↔es[k]? =some true/\done.getD k false=true:=by
 unfold Jz
 rw [JG,List.mem_range,gN]
 constructor
 ·rintro⟨I,K,h3⟩
  refine⟨?_,h3⟩
  rw [p5 I]at K ⊢
  simpa using K
 ·rintro⟨I,K⟩
  exact⟨(pP.1 I).1,by rw [I];rfl,K⟩
def Ua{i:Nat}(h:es[i]? =some false):Jz es (done.setIfInBounds i true)=Jz es done:=by
 unfold Jz
 refine List.filter_congr fun k hk=>?_
 by_cases hik:i=k
 ·subst hik;rw [h];rfl
 ·rw [getD_set_ne false hik]
def Zy{i:Nat}(h:es[i]? =some true)(hs:i<done.size):Jz es (done.setIfInBounds i true)=XV es i (Jz es done):=by
 unfold XV
 conv=>lhs;unfold Jz
 refine List.filter_congr fun k hk=>?_
 by_cases hik:i=k
 ·subst hik;simp [h,hs]
 ·rw [getD_set_ne false hik]
  have M:Nat.beq k i=false:=by
   cases M:Nat.beq k i with
   |false=>rfl
   |true=>exact absurd (wQ M).symm hik
  rw [M,xL,De,Nh,DS,gN]
  constructor
  ·rintro⟨I,K⟩
   refine⟨?_,K⟩
   cases he:es[k]? with
   |none=>rw [he]at I;cases I
   |some b=>rw [he]at I;simpa using I
  ·rintro⟨I,K⟩
   exact⟨by rw [I];rfl,K⟩
def Hb:List Nat->List (List Nat)
 |[]=>[[]]
 |k::l=>(Hb l).map (k:: ·)++Hb l
def Ea(es:List Bool):List Nat:=(List.range es.length).filter fun k=>(es[k]?).getD false
def AU(p:Nat->Bool): ∀l:List Nat,l.filter p∈Hb l
 |[]=>EE.2 rfl
 |k::l=>by
  unfold Hb
  rw [BG]
  by_cases h:p k=true
  ·rw [List.filter_cons_of_pos h]
   exact .inl (xT.2 ⟨_,AU p l,rfl⟩)
  ·rw [List.filter_cons_of_neg h]
   exact .inr (AU p l)
def V7(es:List Bool)(done:Array Bool):Jz es done∈Hb (Ea es):=by
 have:Jz es done=(Ea es).filter fun k=>done.getD k false:=by
  unfold Jz Ea
  rw [List.filter_filter]
  refine List.filter_congr fun k _=>Bool.and_comm ..
 rw [this]
 exact AU _ _
def noE(L:List Oper)(es:List Bool)(i:Nat)(s:List Nat):Bool:=
 s.contains i||(Ea es).any fun k=>if s.contains k then xd L L.length k i||(Ea es).any fun j=> !s.contains j&&xd L L.length k j else xd L L.length i k
def PL(L:List Oper)(es:List Bool)(i:Nat)(aas:List (List Nat)):Bool:=(Hb (Ea es)).all fun s=>noE L es i s||aas.any fun a=>eqL a s
def Py{α:Type}(p:α->Prop):List α->Prop
 |[]=>True
 |a::l=>p a/\Py p l
def Py.mem{p:α->Prop}: ∀{l:List α},Py p l-> ∀a∈l,p a
 |_::_,⟨h,_⟩,_,.head _=>h
 |_::_,⟨_,h⟩,_,.tail _ hm=>Py.mem h _ hm
abbrev SsT:=List (List Nat×((Nat->OI)->List OE))
def DT(E:En)(G:nt)(L:List Oper)(ts:List TS)(Ss:SsT)(es0:List Bool):Nat->List Oper->List Bool->Prop
 |_,[],_=>True
 |i,o::rest,false::es=>(∃(needs:List NS) (t:TS) (aas:List (List Nat)),ts[i]? =some t/\Ga G ts needs/\(needs.all fun n=>va L o i (n.at fun _=>sF))=true/\jq i o=true/\acI L es0 i t=true/\PL L es0 i aas=true/\o.dst.isSome=true/\
   Py (fun s=> ∀σ,bL E (UA Ss s σ) L.toArray (FR needs σ) o (t.at σ)) aas)/\DT E G L ts Ss es0 (i+1) rest es
 |i,o::rest,true::es=>(∃(needs:List NS) (t:TS) (aas:List (List Nat×List Nat)),ts[i]? =some t/\Ga G ts needs/\(needs.all fun n=>va L o i (n.at fun _=>sF))=true/\jq i o=true/\acI L es0 i t=true/\PL L es0 i (aas.map (·.1))=true/\(aas.all fun p=>eqL (XV es0 i p.1) p.2)=true/\
   Py (fun p:List Nat×List Nat=> ∀σ,rz E L.toArray (UA Ss p.1 σ) (FR needs σ) o (fun x=>UA Ss p.2 (upd σ i x)) (fun x=>t.at (upd σ i x))) aas)/\DT E G L ts Ss es0 (i+1) rest es
 |_,_::_,[]=>False
variable{L:List Oper}{Ss:SsT}
def DT.get{ts:List TS}{es0:List Bool}: ∀(r:List Oper) (es:List Bool) (k:Nat),DT E G L ts Ss es0 k r es-> ∀(j:Nat) (o:Oper),r[j]? =some o->
    ∃e,es[j]? =some e/\ ∃(needs:List NS) (t:TS),ts[k+j]? =some t/\Ga G ts needs/\(needs.all fun n=>va L o (k+j) (n.at fun _=>sF))=true/\jq (k+j) o=true/\acI L es0 (k+j) t=true/\
      (match e with
       |false=>o.dst.isSome=true/\ ∃aas,PL L es0 (k+j) aas=true/\Py (fun s=> ∀σ,bL E (UA Ss s σ) L.toArray (FR needs σ) o (t.at σ)) aas
       |true=> ∃aas:List (List Nat×List Nat),PL L es0 (k+j) (aas.map (·.1))=true/\(aas.all fun p=>eqL (XV es0 (k+j) p.1) p.2)=true/\Py (fun p:List Nat×List Nat=> ∀σ,rz E L.toArray (UA Ss p.1 σ) (FR needs σ) o (fun x=>UA Ss p.2 (upd σ (k+j) x)) (fun x=>t.at (upd σ (k+j) x))) aas):=by
  intro r
  induction r with
  |nil=>intro es k _ j o h;simp at h
  |cons p r ih=>
    intro es k h j o ho
    cases es with
    |nil=>exact h.elim
    |cons e es=>
      cases e with
      |false=>
        obtain⟨⟨needs,t,aas,g1,g2,g3,g4,g5,g6,g7,g8⟩,K⟩:=h
        cases j with
        |zero=>
          simp at ho;subst ho
          exact⟨false,rfl,needs,t,g1,g2,g3,g4,g5,g7,aas,g6,g8⟩
        |succ j=>
          obtain⟨e',g1,g2⟩:=ih es (k+1) K j o (by simpa using ho)
          refine⟨e',by simpa using g1,?_⟩
          rw [show k+1+j=k+(j+1)from by omega]at g2
          exact g2
      |true=>
        obtain⟨⟨needs,t,aas,g1,g2,g3,g4,g5,g6,g7,g8⟩,K⟩:=h
        cases j with
        |zero=>
          simp at ho;subst ho
          exact⟨true,rfl,needs,t,g1,g2,g3,g4,g5,aas,g6,g7,g8⟩
        |succ j=>
          obtain⟨e',g1,g2⟩:=ih es (k+1) K j o (by simpa using ho)
          refine⟨e',by simpa using g1,?_⟩
          rw [show k+1+j=k+(j+1)from by omega]at g2
          exact g2
structure DJT(E:En)(G:nt)(l:List Oper)(ts:List TS)(Ss:SsT)(es:List Bool)(done:Array Bool)(a:Act)(w:World)(S:SH)(σ:Nat->OI):Prop where
 ext:jh E.B E.w0 E.S0 w S
 sat:lF w S
 own:dN E.base E.B w S (UA Ss (Jz es done) σ)
 size:a.tmps.size=E.N.n
 defers:a.defers=E.N.ds
 dsz:done.size=l.length
 down: ∀j o,l[j]? =some o->done.getD j false=true-> ∀e∈o.after,Region.binds .any e=true->done.getD e.on false=true
 old: ∀k t,cL G k=some t->(∀j o,l[j]? =some o->done.getD j false=true->o.dst≠some k)->t.p S (a.tmps.getD k undef)
 new: ∀j o d p,l[j]? =some o->done.getD j false=true->o.dst=some d->ts[j]? =some p->(p.at σ).p S (a.tmps.getD d undef)
 deps: ∀j p,done.getD j false=true->ts[j]? =some p-> ∀k∈p.1,done.getD k false=true
section
variable{ts:List TS}
def DJT.need{σ:Nat->OI}(h:DJT E G L ts Ss es done a w S σ){i:Nat}(hi:L[i]? =some o)(hun:done.getD i true=false)(hwait: ∀e∈o.after,Region.binds .any e=true->done.getD e.on false=true){needs:List NS}(I:Ga G ts needs)(K:(needs.all fun n=>va L o i (n.at fun _=>sF))=true):eJ E.N S a (FR needs σ):=by
 have hlt:i<done.size:=by rw [h.dsz];exact(pP.1 hi).1
 have hun' :done.getD i false=false:=by
  simp [hlt]at hun ⊢;exact hun
 refine⟨h.size,h.defers,?_⟩
 have key: ∀n∈needs,(n.ty σ).p S (a.tmps.getD n.slot undef):=by
  intro n hn
  have hs:=p7.1 K n hn
  have ho:=I.mem n hn
  unfold va NS.at at hs
  unfold ZU at ho
  cases hsrc:n.src with
  |some j=>
   rw [hsrc]at hs ho
   simp only [gN]at hs
   obtain⟨hs1,hs2⟩:=hs
   cases hj:L[j]? with
   |none=>rw [hj]at hs1;cases hs1
   |some p=>
    rw [hj]at hs1
    cases hd:p.dst with
    |none=>simp only [hd]at hs1;cases hs1
    |some d=>
     simp only [hd]at hs1
     have hd' :=wQ hs1
     subst hd'
     have hdone:done.getD j false=true:=by
      unfold Ri at hs2
      obtain⟨e,he0,M⟩:=zR.1 hs2
      have he:e∈o.after:=by simpa using he0
      simp only [gN]at M
      have:=hwait e he M.2
      rwa [wQ M.1]at this
     have hm:=ho σ
     cases hf:ts[j]? with
     |none=>rw [hf]at hm;simp at hm
     |some f=>
      rw [hf]at hm
      have e:f.at σ=n.ty σ:=by simpa using hm
      rw [<-e]
      exact h.new j p n.slot f hj hdone hd hf
  |none=>
   rw [hsrc]at hs ho
   refine h.old _ _ (ho σ) fun j p hj hdone hd=>?_
   have:=p7.1 hs p (BK hj)
   simp only [hd,Nat.beq_refl,p6,xL]at this
   unfold Ri at this
   obtain⟨e,he0,M⟩:=zR.1 this
   have he:e∈p.after:=by simpa using he0
   simp only [gN]at M
   have h3:=h.down j p hj hdone e he M.2
   rw [wQ M.1]at h3
   rw [h3]at hun'
   cases hun'
 clear I K
 intro k t hk
 unfold FR at hk
 induction needs with
 |nil=>simp [m5,cL]at hk
 |cons n needs ih=>
  simp only [xU]at hk
  unfold m5 cL at hk
  by_cases M:Nat.beq n.slot k=true
  ·have hb' :Nat.beq (n.at σ).slot k=true:=M
   rw [hb']at hk
   have:=wQ M
   subst this
   have h9:some (n.at σ).ty=some t:=by simpa using hk
   have e:n.ty σ=t:=sI h9
   rw [<-e]
   exact key n (mp ..)
  ·rw [Gb]at M
   have hb' :Nat.beq (n.at σ).slot k=false:=M
   rw [hb']at hk
   exact ih (fun m hm=>key m (lT _ hm)) hk
def DJT.step{w' :World}{σ σ' :Nat->OI}(h:DJT E G L ts Ss es done a w S σ){i:Nat}{p0:TS}{C:Nat->Prop}(hi:L[i]? =some o)(hdN: ∀d,o.dst=some d->d<E.N.n)(hs2: ∀d,o.dst=some d-> ∀j p,L[j]? =some p->done.getD j false=true->p.dst=some d->i=j)(hwait: ∀e∈o.after,Region.binds .any e=true->done.getD e.on false=true)(Y:ts[i]? =some p0)(hun:done.getD i true=false)(hdep: ∀k∈p0.1,k=i\/done.getD k false=true)(hext:jh C w S w' S')(hC: ∀b,C b->E.base<=b\/E.B b)(hsat:lF w' S')(hown:dN E.base E.B w' S' (UA Ss (Jz es (done.setIfInBounds i true)) σ'))(hσ: ∀k,k≠i->σ' k=σ k)(hv:(p0.at σ').p S' v):
  DJT E G L ts Ss es (done.setIfInBounds i true) (a.put o.dst v) w' S' σ' :=by
 have hlt:i<done.size:=by rw [h.dsz];exact(pP.1 hi).1
 have hset: ∀j,(done.setIfInBounds i true).getD j false=true->j=i\/done.getD j false=true:=fun j hj=>by
  by_cases hij:i=j
  ·exact .inl hij.symm
  ·rw [getD_set_ne false hij]at hj;exact .inr hj
 have hseti:(done.setIfInBounds i true).getD i false=true:=by simp [hlt]
 have hun' :done.getD i false=false:=by simp [hlt]at hun ⊢;exact hun
 have hput: ∀k,(∀d,o.dst=some d->d≠k)->(a.put o.dst v).tmps.getD k undef=a.tmps.getD k undef:=fun k hk=>by
  cases hd:o.dst with
  |none=>rfl
  |some d=>
   have hda:d<a.tmps.size:=by rw [h.size];exact hdN d hd
   rw [RB hda,aS (hk d hd)]
 refine⟨h.ext.step hext hC,hsat,hown,?_,?_,by simp [h.dsz],fun j p hj hdone e he M=>?_,fun k u hk hno=>?_,fun j p d' u hj hdone hd' hu=>?_,fun j u hj hu k hk=>?_⟩
 ·cases o.dst with
  |none=>exact h.size
  |some d=>simp [Act.put,h.size]
 ·cases o.dst with
  |none=>exact h.defers
  |some d=>exact h.defers
 ·rcases hset j hdone with rfl|hj'
  ·rw [hi]at hj
   have:o=p:=by simpa using hj
   subst this
   exact getD_set_true (hwait e he M)
  ·exact getD_set_true (h.down j p hj hj' e he M)
 ·rw [hput k fun d hd e=>hno i o hi hseti (by rw [hd,e])]
  exact u.mono hext.keep (h.old k u hk fun j p hj hdone=>hno j p hj (getD_set_true hdone))
 ·by_cases hij:j=i
  ·subst hij
   rw [hi]at hj
   have:o=p:=by simpa using hj
   subst this
   have hda:d' <a.tmps.size:=by rw [h.size];exact hdN d' hd'
   rw [hd',RB hda,br rfl]
   rw [Y]at hu
   have:p0=u:=by simpa using hu
   subst this
   exact hv
  ·have hj' :=(hset j hdone).resolve_left hij
   rw [hput d' fun d hd e=>by subst e;exact hij (hs2 d hd j p hj hj' hd').symm]
   have e1:u.at σ' =u.at σ:=congrArg u.2 (JM fun k hk=>hσ k fun e=>by
     subst e
     rw [h.deps j u hj' hu k hk]at hun';cases hun')
   rw [e1]
   exact Ty.mono _ hext.keep (h.new j p d' u hj hj' hd' hu)
 ·rcases hset j hj with rfl|hj'
  ·rw [Y]at hu
   have:p0=u:=by simpa using hu
   subst this
   rcases hdep k hk with rfl|h'
   ·exact hseti
   ·exact getD_set_true h'
  ·exact getD_set_true (h.deps j u hj' hu k hk)
end
def Nn{l t:List Oper}{ts:List TS}(hsl:As E.N.n [] l=true)(hlen:ts.length=l.length)(hesl:es.length=l.length)(hd:DT E G (l++t) ts Ss es 0 l es)(Y:Rn (l++t) l.length t.length=true)(hQ: ∀a w S σ,St E (UA Ss (Ea es) σ) (Js l (tsS ts σ) G) a w S->wpListIn (fw E.r) 0 E.P (l++t).toArray aJ t a w):
  ∀(fuel:Nat) (done:Array Bool) (a:Act) (w:World) (S:SH) (σ:Nat->OI),xy done=fuel->(∀j,l.length<=j->done.getD j false=false)->DJT E G (l++t) ts Ss es done a w S σ->wpAnyIn (fw E.r) 0 E.P .any (l++t).toArray aJ fuel done a w:=by
 have hL1: ∀i o,i<l.length->(l++t)[i]? =some o->l[i]? =some o:=fun i o hi h=>by rwa [Lc hi]at h
 have hL2: ∀i o,l[i]? =some o->(l++t)[i]? =some o:=fun i o h=>by rw [Lc (pP.1 h).1];exact h
 have htail: ∀m o,l.length<=m->(l++t)[m]? =some o->IF (l++t) m=true/\jq m o=true:=fun m o hm ho=>by
  have hml:m<(l++t).length:=(pP.1 ho).1
  rw [ju]at hml
  unfold Rn at Y
  have:=p7.1 Y (m-l.length) (by simp;omega)
  rw [show l.length+(m-l.length)=m from by omega,ho]at this
  simp only [gN]at this
  exact⟨this.1,this.2.1⟩
 have hget:=fun i o (hi:l[i]? =some o)=>DT.get l es 0 hd i o hi
 have hedge: ∀i o,(l++t)[i]? =some o->jq i o=true:=fun i o hi=>by
  rcases uy i l.length with h|h
  ·obtain⟨_,_,_,_,_,_,_,h,_⟩:=hget i o (hL1 i o h hi)
   simpa using h
  ·exact(htail i o h hi).2
 obtain⟨hs1,hs2⟩:=NH l [] hsl
 have fin: ∀fuel done a w S σ,xy done=fuel->(∀j,l.length<=j->done.getD j false=false)->DJT E G (l++t) ts Ss es done a w S σ->(∀i,i<l.length->done.getD i false=true)->wpAnyIn (fw E.r) 0 E.P .any (l++t).toArray aJ fuel done a w:=by
  intro fuel done a w S σ hu hfree h hall
  have hdn:Jz es done=Ea es:=by
   unfold Jz Ea
   refine List.filter_congr fun k hk=>?_
   rw [hall k (by rw [<-hesl];exact List.mem_range.1 hk),B2]
  have hown:=h.own
  rw [hdn]at hown
  refine PK (n:=l.length) (fun m o hm ho=>(htail m o hm ho).1) hedge t l.length done fuel a w (fa _) (by simp) h.dsz (fun j hj=>⟨fun hjd=>?_,fun hlt=>hall j hlt⟩) hu
   (hQ a w S σ ⟨h.ext,h.sat,hown,h.size,h.defers,fun j u hj=>?_⟩)
  ·rcases uy j l.length with h' |h'
   ·exact h'
   ·rw [hfree j h']at hjd;cases hjd
  ·rcases TO l (tsS ts σ) j u (by unfold tsS;rw [B3];exact hlen) hj with⟨i,o,I,K,h3⟩|⟨I,K⟩
   ·unfold tsS at h3
    rw [GU]at h3
    cases hf:ts[i]? with
    |none=>rw [hf]at h3;simp at h3
    |some f=>
     rw [hf]at h3
     have e:f.at σ=u:=by simpa using h3
     rw [<-e]
     exact h.new i o j f (hL2 i o I) (hall i (pP.1 I).1) K hf
   ·refine h.old j u I fun i o ho hdn=>?_
    rcases uy i l.length with h' |h'
    ·exact K o (BK (hL1 i o h' ho))
    ·rw [hfree i h']at hdn;cases hdn
 have lower: ∀done a w S σ i,(∀j,l.length<=j->done.getD j false=false)->DJT E G (l++t) ts Ss es done a w S σ->i∈Region.ready .any (l++t).toArray done->l.length<=i-> ∀j,j<l.length->done.getD j false=true:=by
  intro done a w S σ i hfree h hi hge j hj
  obtain⟨hun,p,hp,hwait⟩:=mem_ready.1 hi
  have hp' :(l++t)[i]? =some p:=by simpa using hp
  have hcov:=(htail i p hge hp').1
  unfold IF at hcov
  have hre:=p7.1 hcov j (by simp;omega)
  exact oI h.down _ i j (fun q hq e he M=>by
   have:q=p:=by rw [hp']at hq;simpa using hq.symm
   subst this
   exact hwait e he M) hre
 intro fuel
 induction fuel with
 |zero=>
  intro done a w S σ hu hfree h
  exact fin 0 done a w S σ hu hfree h fun i hi=>FI hu (by rw [h.dsz,ju];omega)
 |succ fuel ih=>
  intro done a w S σ hu hfree h
  by_cases hall: ∀i,i<l.length->done.getD i false=true
  ·exact fin _ done a w S σ hu hfree h hall
  have hready0: ∀m i,i<m->i<l.length->Region.ready .any (l++t).toArray done=[]->done.getD i false=true:=by
   intro m
   induction m with
   |zero=>intro i h;omega
   |succ m ihm=>
    intro i him hil hr
    have his:i<done.size:=by rw [h.dsz,ju];omega
    by_cases hdn:done.getD i true=true
    ·rw [<-vT his];exact hdn
    ·exfalso
     obtain⟨o,ho⟩: ∃o,(l++t)[i]? =some o:=⟨l[i],hL2 i _ (p5 hil)⟩
     have hmem:i∈Region.ready .any (l++t).toArray done:=by
      rw [mem_ready]
      refine⟨by simpa using hdn,o,by simpa using ho,fun e he M=>?_⟩
      have:=hedge i o ho
      unfold jq at this
      have:=p7.1 this e (by simpa using he)
      simp only [M,p6,xL,wT]at this
      exact ihm e.on (by omega) (by omega) hr
     rw [hr]at hmem;cases hmem
  refine⟨fun hr=>absurd (fun i hi=>hready0 (i+1) i (by omega) hi hr) hall,fun i hi=>?_⟩
  have hil:i<l.length:=by
   rcases uy i l.length with h' |h'
   ·exact h'
   ·exact absurd (lower done a w S σ i hfree h hi h') hall
  obtain⟨hun,o,ho,hwait⟩:=mem_ready.1 hi
  have ho' :(l++t)[i]? =some o:=by simpa using ho
  have hol:=hL1 i o hil ho'
  obtain⟨e,he,needs,u,I,K,h3,_,h4,h5⟩:=hget i o hol
  rw [Ab]at I h3 h4
  have hF:=h.need ho' hun hwait K h3
  have his:i<done.size:=by rw [h.dsz,ju];omega
  have hun' :done.getD i false=false:=by rw [<-vT his];exact hun
  have hu' :xy (done.setIfInBounds i true)=fuel:=by have:=G7 hun;omega
  have huq: ∀d,o.dst=some d-> ∀j p,(l++t)[j]? =some p->done.getD j false=true->p.dst=some d->i=j:=fun d hdd j p hj hjd hpd=>by
   rcases uy j l.length with h' |h'
   ·exact hs2 i j o p d hol (hL1 j p h' hj) hdd hpd
   ·rw [hfree j h']at hjd;cases hjd
  have hfree' : ∀j,l.length<=j->(done.setIfInBounds i true).getD j false=false:=fun j hj=>by
   rw [getD_set_ne false (by omega)];exact hfree j hj
  have hbl:E.base<=w.heap.size:=h.ext.size
  have hwaits: ∀q,(l++t)[i]? =some q-> ∀e∈q.after,Region.binds .any e=true->done.getD e.on false=true:=fun q hq e he M=>by
   have:q=o:=by rw [ho']at hq;simpa using hq.symm
   subst this
   exact hwait e he M
  have hdpp: ∀k∈u.1,k=i\/done.getD k false=true:=fun k hk=>by
   have:=p7.1 h4 k hk
   simp only [gN,tB]at this
   rcases this.2 with M|M
   ·exact .inl (wQ M)
   ·exact .inr (oI h.down _ i k hwaits M)
  have hdNN: ∀d,o.dst=some d->d<E.N.n:=fun d hd=>(hs1 o (BK hol) d hd).1
  unfold wpOpIn
  rw [ho]
  show if _ then _ else _
  -- just these effects stand
  have hpos:noE (l++t) es i (Jz es done)=false:=by
   rw [p8]
   intro hno
   unfold noE at hno
   rw [tB]at hno
   rcases hno with hc|hc
   ·have:=(DS.1 (Nh.1 hc)).2
    rw [this]at hun';cases hun'
   ·obtain⟨k,hk1,hk2⟩:=zR.1 hc
    have hke:es[k]? =some true:=by
     unfold Ea at hk1
     rw [JG,List.mem_range]at hk1
     have h7:=hk1.2
     rw [p5 hk1.1]at h7 ⊢
     simpa using h7
    by_cases hin:(Jz es done).contains k=true
    ·rw [br hin,tB]at hk2
     have hkd:=(DS.1 (Nh.1 hin)).2
     rcases hk2 with M|M
     ·have:=oI h.down _ k i (fun q hq e he M=>h.down k q hq hkd e he M) M
      rw [this]at hun';cases hun'
     ·obtain⟨j,hj1,hj2⟩:=zR.1 M
      rw [gN,Ai]at hj2
      have hje:es[j]? =some true:=by
       unfold Ea at hj1
       rw [JG,List.mem_range]at hj1
       have h7:=hj1.2
       rw [p5 hj1.1]at h7 ⊢
       simpa using h7
      have hjd:=oI h.down _ k j (fun q hq e he M=>h.down k q hq hkd e he M) hj2.2
      have:=Nh.2 (DS.2 ⟨hje,hjd⟩)
      rw [hj2.1]at this;cases this
    ·rw [aS hin]at hk2
     have hkd:=oI h.down _ i k hwaits hk2
     exact hin (Nh.2 (DS.2 ⟨hke,hkd⟩))
  have hwin: ∀aas:List (List Nat),PL (l++t) es i aas=true->Jz es done∈aas:=by
   intro aas hw
   unfold PL at hw
   have:=p7.1 hw _ (V7 es done)
   rw [hpos,xL]at this
   obtain⟨b,hb1,hb2⟩:=zR.1 this
   rw [<-QP hb2];exact hb1
  cases e with
  |false=>
   simp only at h5
   obtain⟨hdS,aas,hw,h5⟩:=h5
   rw [Ab]at hw
   obtain⟨d,hdd⟩:=Option.isSome_iff_exists.1 hdS
   have h6:=h5.mem _ (hwin aas hw) σ a w S h.sat h.own hF
   have hdq:=Ua (done:=done) he
   by_cases hw:Region.wanted o (yielded (l++t).toArray a.tmps)=true
   ·rw [br hw]at h6 ⊢
    refine vp (fun a' w' ⟨v,S',ha,V,hs,hv⟩=>?_) h6
    subst ha
    exact ih _ _ _ S' _ hu' hfree' (h.step ho' hdNN huq hwait I hun hdpp V (fun _ M=>M.elim) hs (by rw [hdq];exact h.own.ext0 V) (fun _ _=>rfl) hv)
   ·rw [aS hw]at h6 ⊢
    exact⟨fun _ _=>trivial,ih _ _ _ S _ hu' hfree' (h.step ho' hdNN huq hwait I hun hdpp (jh.refl s0 _ _) (fun _ M=>M.elim) h.sat (by rw [hdq];exact h.own) (fun _ _=>rfl) h6)⟩
  |true=>
   simp only [Ab]at h5
   obtain⟨aas,hw,hins,h5⟩:=h5
   obtain⟨p,hp1,hp2⟩:=xT.1 (hwin _ hw)
   have hp3:=QP (p7.1 hins p hp1)
   have h6:=h5.mem p hp1 σ a w S h.sat (by rw [hp2];exact h.own) hF hbl
   have hdq:Jz es (done.setIfInBounds i true)=p.2:=by rw [Zy he his,<-hp2,hp3]
   by_cases hw:Region.wanted o (yielded (l++t).toArray a.tmps)=true
   ·rw [br hw]at h6 ⊢
    refine vp (fun a' w' ⟨v,S',x,ha,V,hs,hown,hv⟩=>?_) h6
    subst ha
    exact ih _ _ _ S' _ hu' hfree' (h.step ho' hdNN huq hwait I hun hdpp V (fun b ⟨f,hf,M⟩=>(dN.mem h.own f (by rw [<-hp2];exact hf)).2 b M) hs (by rw [hdq];exact hown) (fun k hk=>UG σ x hk) hv)
   ·rw [aS hw]at h6 ⊢
    obtain⟨x,hown,hv⟩:=h6
    exact⟨fun _ _=>trivial,ih _ _ _ S _ hu' hfree' (h.step ho' hdNN huq hwait I hun hdpp (jh.refl s0 _ _) (fun _ M=>M.elim) h.sat (by rw [hdq];exact hown) (fun k hk=>UG σ x hk) hv)⟩
def lS{id:Nat}(m:Nat)(ts:List TS)(es:List Bool)(Ss:SsT)(hO: ∀σ,UA Ss [] σ=aK)(hm:E.P.follows .mixedOrders=true)(hsl:As E.N.n [] (L.take m)=true)(hlen:ts.length=(L.take m).length)(hesl:es.length=(L.take m).length)(Y:Rn L (L.take m).length (L.drop m).length=true)(hd:DT E G L ts Ss es 0 (L.take m) es)(k: ∀σ:Nat->OI,RG E L.toArray aJ (L.drop m) (UA Ss (Ea es) σ) (Js (L.take m) (tsS ts σ) G)):CG E aJ (.region id L.toArray true) aK G:=fun a w S st=>by
 have hL:L=L.take m++L.drop m:=(xQ m L).symm
 generalize L.take m=l at hL hsl hlen hesl Y hd k
 generalize L.drop m=t at hL Y k
 subst hL
 refine wpIn_region_any hm ?_
 obtain⟨he,hs⟩:=Pu (w:=w) st.sat
 have hdn0:Jz es (Array.replicate (l++t).toArray.size false)=[]:=by
  unfold Jz
  refine Rg.2 fun k hk=>?_
  simp [Nj]
  intro _
  split<;>simp
 refine Nn hsl hlen hesl hd Y (fun a w S σ st=>k σ a w S st) _ _ _ _ S (fun _=>sF) ?_ (fun j _=>?_)
  ⟨st.ext.step0 he,hs,by rw [hdn0,hO];exact st.own.ext0 he,st.facts.size,st.facts.defers,by simp,fun j o hj hdone=>?_,fun k t hk _=>st.facts.at_ k t hk,fun j o d t hj hdone=>?_,fun j p hdone=>?_⟩
 ·unfold xy;rw [Array.toList_replicate,List.countP_replicate];simp
 ·simp [Nj];split<;>rfl
 ·simp [Nj]at hdone
  split at hdone<;>simp at hdone
 ·simp [Nj]at hdone
  split at hdone<;>simp at hdone
 ·simp [Nj]at hdone
  split at hdone<;>simp at hdone

def dN.perm{O' :List OE}(h:aK.Perm O'):dN base B w S aK->dN base B w S O' :=by
 induction h with
 |nil=>exact id
 |cons x p ih=>
  rintro⟨I,K,h3⟩
  exact⟨I,fun f hf=>K f (p.mem_iff.2 hf),ih h3⟩
 |swap x y l=>
  rintro⟨I,K,h3,h4,h5⟩
  refine⟨h3,fun f hf k hk hfk=>?_,I,fun f hf=>K f (lT _ hf),h5⟩
  rcases gW.1 hf with rfl|hf
  ·exact K x (mp ..) k hfk hk
  ·exact h4 f hf k hk hfk
 |trans _ _ ih1 ih2=>exact fun k=>ih2 (ih1 k)
def xe(aK:List OE):List Nat->List OE
 |[]=>[]
 |i::l=>match aK[i]? with
  |some e=>e::xe aK l
  |none=>xe aK l
def DK(aK:List OE): ∀a b:List Nat,xe aK (a++b)=xe aK a++xe aK b
 |[],_=>rfl
 |i::a,b=>by
  simp only [Ac,xe]
  split<;>simp [DK aK a b]
def Qj{a b:List Nat}(h:a.Perm b):(xe aK a).Perm (xe aK b):=by
 induction h with
 |nil=>exact .nil
 |cons x p ih=>
  simp only [xe]
  split
  ·exact .cons _ ih
  ·exact ih
 |swap x y l=>
  simp only [xe]
  cases V:aK[x]? <;>cases hy:aK[y]? <;>simp<;>exact .swap ..
 |trans _ _ ih1 ih2=>exact ih1.trans ih2
def N4(aK:List OE):xe aK (List.range aK.length)=aK:=by
 have key: ∀n,n<=aK.length->xe aK (List.range n)=aK.take n:=by
  intro n
  induction n with
  |zero=>intro _;rfl
  |succ n ih=>
   intro h
   rw [List.range_succ,DK,ih (by omega)]
   simp only [xe]
   rw [p5 (by omega),Ld (by omega)]
 rw [key _ (fa _),Dg]
def dN.pick(l:List Nat)(hl:l.isPerm (List.range aK.length)=true)(h:dN base B w S aK):dN base B w S (xe aK l):=
 h.perm (by
  have:=Qj (aK:=aK) (List.isPerm_iff.1 hl)
  rw [N4]at this
  exact this.symm)

def Ra{α β:Type}(r:Rp α)(off:Nat)(q:Rp β)(x:α)(y:β):Prop:= ∀S cs,r.rc S cs x->off+q.sz<=cs.length/\q.rc S ((cs.drop off).take q.sz) y
def kH{x:α}:Ra r 0 r x x:=fun S cs h=>by
 have hl:=r.len h
 refine⟨by omega,?_⟩
 rw [xM,u0 (by omega)];exact h
variable{off off' :Nat}
def nY{γ:Type}{p:Rp γ}{o:Nat}{x:α}{y:β}{get:β->γ}(h:Ra r off q x y)(k:qZ q o p get)(M:Nat.ble (o+p.sz) q.sz=true)(he:off+o=off'):Ra r off' p x (get y):=fun S cs hc=>by
 subst he
 obtain⟨I,K⟩:=h S cs hc
 have hb' :=rL M
 have h3:=k S _ _ K
 refine⟨by omega,?_⟩
 rwa [zD,BF,qb,Df (by omega)]at h3
def AS{x:α}{xs:List β}{y:β}{i:Int}(h:Ra r off (qH q n) x xs)(hy:di xs i=some y):Ra r (off+i.toNat*q.sz) q x y:=fun S cs hc=>by
 obtain⟨I,K⟩:=h S cs hc
 obtain⟨h0,hy'⟩:=m9 hy
 have hlt:=(pP.1 hy').1
 have hn:xs.length=n:=K.1
 have h3:=DG K.2 hy'
 have e:(qH q n).sz=n*q.sz:=rfl
 have hmul:i.toNat*q.sz+q.sz<=n*q.sz:=by rw [<-Fu];exact BJ _ (by omega)
 refine⟨by omega,?_⟩
 rwa [zD,BF,qb,e,Df (by omega)]at h3
def TU(i:Int)(n:Nat):Option Unit:=if 0<=i/\i<(n:Int)then some ()else none
def jf{i:Int}{u:Unit}(h:TU i n=some u):0<=i/\i<(n:Int):=by
 unfold TU at h
 split at h
 ·assumption
 ·cases h
def uE{xs:List β}{v:β}{i:Int}(hi:0<=i/\i<(n:Int)):th (qH q n) (qH q n) (i.toNat*q.sz) q xs v (xs.set i.toNat v):=fun S cs ds ⟨I,K⟩ hd=>
 ⟨by rw [JH];exact I,DF hd K (by omega)⟩
def uF{γ:Type}{p:Rp γ}{o:Nat}{x x' :α}{y y' :β}{v:γ}(hf:Ra r off q x y)(hi:th q q o p y v y')(ho:th r r off q x y' x')(M:o+p.sz<=q.sz)(he:off+o=off'):th r r off' p x v x' :=fun S cs ds hc hd=>by
 subst he
 obtain⟨I,K⟩:=hf S cs hc
 have hl:=p.len hd
 have h3:=hi S _ ds K hd
 have h4:=ho S cs _ hc h3
 have e:cs.take off++(((cs.drop off).take q.sz).take o++ds++((cs.drop off).take q.sz).drop (o+p.sz))++cs.drop (off+q.sz)=cs.take (off+o)++ds++cs.drop (off+o+p.sz):=by
  have e1:((cs.drop off).take q.sz).take o=(cs.drop off).take o:=by rw [BF,Df (by omega)]
  have e2:cs.take off++(cs.drop off).take o=cs.take (off+o):=(List.take_add).symm
  have e3:((cs.drop off).take q.sz).drop (o+p.sz)++cs.drop (off+q.sz)=cs.drop (off+o+p.sz):=by
   rw [zD,qb]
   have:cs.drop (off+q.sz)=(cs.drop (off+(o+p.sz))).drop (q.sz-(o+p.sz)):=by rw [qb];congr 1;omega
   rw [this,xQ,Nat.add_assoc]
  rw [e1]
  simp only [ji]
  rw [e3,<-ji,e2]
 rwa [e]at h4
def qO{q:Nat}{i:Int}(hi:0<=i/\i<(n:Int)):i.toNat*q+q<=n*q:=by
 rw [<-Fu];exact BJ _ (by omega)
def xl{R:Nat}{i:Int}(hi:0<=i/\i<(n:Int))(h:Nat.ble (d+n*sz) R=true):d+i.toNat*sz+sz<=R:=by
 have I:=rL h
 have K:=qO (q:=sz) hi
 omega
section
section
def gY{x ix:Operand}{i:Int}(Y:E.P.underlying t=some (.array n e))(ti:TI E.P e sz bytes agg z)(V:bk E.N G x (tV (ba b off)))(hi:bk E.N G ix (tD (rI k) i))(hy:0<=i/\i<(n:Int)):
  cz E aK G ⟨dst,.indexAddr t x ix,ty,pos,after,g⟩ (tV (ba b (off+i.toNat*sz))):=
 .of_pure fun a w S _ ho hf=>by
  have I:a.eval x=ba b off:=V S a hf
  have h5:a.eval ix= .int k i:=dL.1 (hi S a hf)
  refine⟨_,?_,rfl⟩
  simp [execOp,I,h5,ba,Instr.indexAt,asIntOf,nc Y,Instr.sureAddr,hy,ti.sizeOf,lg]
def AJ{x:α}{y:β}{p:Operand}(ti:TI E.P U sz bytes agg z)(hsz:q.sz=sz)(hag:q.agg=agg)(hm:bx r ak b x∈aK)(hy:Ra r off q x y)(hp:bk E.N G p (tV (ba b off))):cz E aK G ⟨dst,.load U p,ty,pos,after,g⟩ (tD q y):=
 .of_pure fun a w S _ ho hf=>by
  have I:a.eval p=ba b off:=hp S a hf
  obtain⟨⟨_,cur,h5,h6⟩,_⟩:=ho.mem _ hm
  have h7:=(hy S _ h6).2
  refine⟨_,?_,_,rfl,h7⟩
  simp [execOp,I,ba,Instr.loadAt,Instr.sureAddr,mB ti h5 hsz hag h7]
def qu{x x' :α}{y y0:β}{p v:Operand}(ti:TI E.P U sz bytes agg z)(hsz:q.sz=sz)(hset:th r r off q x y x')(hfit:off+q.sz<=r.sz)(hp:bk E.N G p (tV (ba b off)))(hv:bk E.N G v (tD q y)):EffOK E (bx r ak b x::aK) G ⟨none,.store U p v,ty,pos,after,g⟩ (fun _=>bx r ak b x' ::aK) (fun _=>Ap):=Eb (fun _ h=>(by cases h)) fun a w S hsat hown hf hbase=>by
 have I:a.eval p=ba b off:=hp S a hf
 obtain⟨ds,K,h3⟩:=hv S a hf
 obtain⟨⟨hno,cur,h5,h6⟩,_⟩:=hown.1
 have hl:=r.len h6
 obtain⟨w',hr,e1,e2,e3,e4,e5,e6⟩:=lv ti hsz h3 h5 (off:=off) (by simp at hl;omega)
 have hrun:(execOp a.eval ⟨none,.store U p v,ty,pos,after,g⟩).run E.P w= .ok .skip w' :=by
  simp [execOp,I,K,Instr.storeAt,ba,Instr.sureAddr,hr]
 obtain⟨g1,g2,g3⟩:=sw (aK:=aK) hsat (bx r ak b x) (bx r ak b x') hown (fun _=>xR) (fun _=>xR) ⟨e1,e2,e3,e4.1,e4.2⟩ e6 ⟨hno,_,e5,by simpa using hset S _ _ h6 h3⟩ hno
 exact⟨w',S,sF,hrun,g1.more fun c hc=>⟨_,mp ..,hc⟩,g2,g3⟩
end
def BA{α:Type}(E:En)(G:nt)(r:Rp α)(n:Nat):List α->List (Nat×Operand)->List α->Prop
 |x,[],y=>x=y
 |x,(i,o)::rest,y=> ∃v:α,Nat.blt i n=true/\bk E.N G o (tD r v)/\BA E G r n (x.set i v) rest y
def OW{α:Type}{r:Rp α}{n:Nat}{S:SH}{a:Act}(hF:eJ E.N S a G): ∀(parts:List (Nat×Operand)) (x y:List α) (cs:List Value),BA E G r n x parts y->(qH r n).rc S cs x->
  ∃ds,(qH r n).rc S ds y/\Instr.fill (fun i=>some (i*r.sz,r.sz)) cs.toArray (parts.map fun p=>(p.1,a.eval p.2))=some ds.toArray
 |[],x,y,cs,h,V=>by
  have e:x=y:=h
  subst e
  exact⟨cs,V,rfl⟩
 |(i,o)::rest,x,y,cs,⟨v,I,h4,h5⟩,V=>by
  obtain⟨c,hv,hc⟩:=h4 S a hF
  have hi:i<n:=by simpa [wT] using I
  have hl:=r.len hc
  have hlr:cs.length=n*r.sz:=(qH r n).len V
  have hmul:i*r.sz+r.sz<=n*r.sz:=by rw [<-Fu];exact BJ _ hi
  have hcells:(a.eval o).cells=c.toArray:=by rw [hv];exact vL hc
  have hset:(qH r n).rc S (cs.take (i*r.sz)++c++cs.drop (i*r.sz+r.sz)) (x.set i v):=⟨by rw [JH];exact V.1,DF hc V.2 (by have:=V.1;omega)⟩
  obtain⟨ds,h6,h7⟩:=OW hF rest _ y _ h5 hset
  refine⟨ds,h6,?_⟩
  have hs:(a.eval o).cells.size=r.sz:=by rw [hcells];simpa using hl
  have h8:=yT (a.eval o) (i*r.sz) (cs.take (i*r.sz)) ((cs.drop (i*r.sz)).take r.sz) (cs.drop (i*r.sz+r.sz)) (by rw [hs];simp;omega) (by simp;omega)
  have e1:cs.take (i*r.sz)++(cs.drop (i*r.sz)).take r.sz++cs.drop (i*r.sz+r.sz)=cs:=by
   rw [ji,<-qb,xQ,xQ]
  rw [e1]at h8
  simp only [xU,Instr.fill]
  rw [aS (by simp [hs,hlr];omega),h8,hcells]
  simpa using h7
def HT{x:List α}{parts:List (Nat×Operand)}{sz' bytes' :Nat}{agg' :Bool}{z' :List Value}(Y:E.P.underlying t=some (.array n ak))(ti:TI E.P ak sz bytes agg z)(hsz:r.sz=sz)(tj:TI E.P t sz' bytes' agg' z')(hz: ∀S,(qH r n).rc S z' x)(V:BA E G r n x parts ys):cz E aK G ⟨dst,.build t parts.toArray,ty,pos,after,g⟩ (tD (qH r n) ys):=
 .of_pure fun a w S _ _ hF=>by
  obtain⟨zv,hzr,hzc⟩:=tj.zero w
  obtain⟨ds,I,K⟩:=OW hF parts x ys z' V (hz S)
  subst hsz
  refine⟨.agg ds.toArray,?_,ds,rfl,I⟩
  have hm:(parts.toArray.map fun(i,x)=>(i,a.eval x)).toList=parts.map fun p=>(p.1,a.eval p.2):=by simp
  simp only [execOp,Instr.build,xK,hzr,zS,nc Y,ti.sizeOf,hzc,hm,K]
  simp
end
open Go.ChangeShapes Go.WideShapes Go.ChangeAt

variable{hg:Type}{W:World}{enc:TypeId×Value->hg}
section
def Ot(W:World):SH:=fun b=>W.heap[b]?
def abo(W:World)(H: ∀p∈glob,∃c ak fr,W.heap[p.1]? =some (.cells c ak fr)/\c.toList.take p.2.length=p.2)(Y: ∀w' :World,(∀(b:Nat) (o:Obj),W.heap[b]? =some o-> ∃o',w'.heap[b]? =some o' /\Od o o')->adn w'):lF W (Ot W):=⟨fun _ o h=>⟨o,h,yi o⟩,H,Y⟩
def BW(enc:TypeId×Value->hg)(P:Program)(W:World){α:Type}(t:TypeId)(r:Rp α):Prop:=
 P.cellsOf t=r.sz/\ ∀fuel cs x,DataW.trod enc P W 0 (fun _=>true) true fuel t cs=some x-> ∃y,r.rc (Ot W) cs y
def UM(h:P.underlying t=some .bool)(hc:P.cellsOf t=1):BW enc P W t rB:=⟨hc,fun fuel cs x V=>by
 cases fuel with
 |zero=>simp [DataW.trod]at V
 |succ n=>
  unfold DataW.trod at V
  rw [h]at V
  split at V
  all_goals try (injections;done)
  ·exact⟨_,rfl⟩⟩
def yl{α β:Type}{f:α->Option β}: ∀{l:List α} {r:List β},l.mapM f=some r->r.length=l.length/\ ∀(i:Nat) (x:α),l[i]? =some x-> ∃y,r[i]? =some y/\f x=some y
 |[],r,h=>by
  simp at h
  subst h
  exact⟨rfl,fun i x V=>by simp at V⟩
 |a::l,r,h=>by
  rw [List.mapM_cons]at h
  cases hf:f a with
  |none=>rw [hf]at h;simp at h
  |some b=>
   rw [hf]at h
   cases hm:l.mapM f with
   |none=>rw [hm]at h;simp at h
   |some r' =>
    rw [hm]at h
    simp at h
    subst h
    obtain⟨I,K⟩:=yl hm
    refine⟨by simp [I],fun i x V=>?_⟩
    cases i with
    |zero=>simp at V;subst V;exact⟨b,rfl,hf⟩
    |succ i=>exact K i x (by simpa using V)
def Fh{a:Addr}(h:W.cell? a=some v):a.spot=none/\ ∃c E fr,W.heap[a.block]? =some (.cells c E fr)/\c[a.off]? =some v:=by
 unfold World.cell? at h
 cases ho:W.heap[a.block]? with
 |none=>rw [ho]at h;cases h
 |some o=>
  rw [ho]at h
  cases o with
  |cells c E fr=>
   simp only at h
   by_cases hs:a.spot.isSome=true
   ·rw [br hs]at h;cases h
   ·rw [aS hs]at h
    exact⟨by cases hq:a.spot with
     |none=>rfl
     |some s=>rw [hq]at hs;simp at hs,c,E,fr,rfl,h⟩
  |_=>simp at h
def KN(a:Addr):a.add 0=a:=by unfold Addr.add;rfl
def QW{cs:List Value}(h:W.cells? 0 ⟨b,off,none⟩ n=some cs)(hn:0<n): ∃c E fr,W.heap[b]? =some (.cells c E fr)/\cs=(c.toList.drop off).take n:=by
 unfold World.cells? at h
 rw [br (lG _)]at h
 obtain⟨I,K⟩:=yl h
 obtain⟨v,_,hv⟩:=K 0 0 (by simp [hn])
 obtain⟨_,c,E,fr,h3,h4⟩:=Fh hv
 refine⟨c,E,fr,by simpa [Addr.add] using h3,?_⟩
 apply Nf
 intro i
 have hl:cs.length=n:=by simpa using I
 by_cases hi:i<n
 ·obtain⟨v,h5,h6⟩:=K i i (by simp [hi])
  obtain⟨_,c',E',fr',h7,h8⟩:=Fh h6
  rw [lg]at h7 h8
  have h7' :W.heap[b]? =some (.cells c' E' fr'):=h7
  have h3' :W.heap[b]? =some (.cells c E fr):=by simpa [Addr.add] using h3
  rw [h3']at h7'
  injection h7' with h7'
  injection h7' with e1
  subst e1
  rw [h5,EG hi,zU]
  simpa using h8.symm
 ·rw [GW (by omega),GW (by simp;omega)]
def Tk{q:Rp α}{len:Nat}{a:Addr}{x:DataW hg×List MemPlace}(h0' :0<q.sz)(hq:BW enc P W e q)(V:(let elemAt (i:Nat):Option (DataW hg×List MemPlace):=(W.cells? 0 (a.add (i*P.cellsOf e)) (P.cellsOf e)).bind (DataW.trod enc P W 0 (fun _=>true) true n e)
   if 0<=a.block/\len<=cap/\cap<=maxLen then
    ((List.range len).mapM elemAt).bind fun elems=>
     (if(fun _=>true) a.block then(List.range (cap-len)).mapM fun j=>elemAt (len+j)else some []).map fun rest=>
      (DataW.slice (elems.map (·.1)) (rest.map (·.1)),MemPlace.row a ((elems.length+rest.length)*P.cellsOf e)++(elems++rest).flatMap (·.2))
   else none)=some x): ∃y,(f9 q).rc (Ot W) [.slice (some a) len cap] y:=by
 simp only at V
 split at V
 ·rename_i hcond
  obtain⟨_,hle,hmax⟩:=hcond
  cases hm:(List.range len).mapM (fun i=>(W.cells? 0 (a.add (i*P.cellsOf e)) (P.cellsOf e)).bind (DataW.trod enc P W 0 (fun _=>true) true n e))with
  |none=>rw [hm]at V;simp at V
  |some elems=>
   obtain⟨hm1,hm2⟩:=yl hm
   rw [hq.1]at hm2
   by_cases hl0:len=0
   ·subst hl0;exact⟨[],some a,cap,rfl,lG _,hmax,.inl rfl⟩
   have hsp0:a.spot=none:=by
    obtain⟨z,_,hz⟩:=hm2 0 0 (by rw [List.getElem?_range (by omega)])
    rw [Nat.zero_mul,KN]at hz
    cases hcs:W.cells? 0 a q.sz with
    |none=>rw [hcs]at hz;simp at hz
    |some cs1=>
     unfold World.cells? at hcs
     rw [br (lG _)]at hcs
     obtain⟨_,g2⟩:=yl hcs
     obtain⟨v,_,hv⟩:=g2 0 0 (by simp [h0'])
     rw [KN]at hv
     exact(Fh hv).1
   have hcell: ∀i,i<len-> ∃c E fr,a.spot=none/\W.heap[a.block]? =some (.cells c E fr)/\ ∃y,q.rc (Ot W) ((c.toList.drop (a.off+i*q.sz)).take q.sz) y:=by
    intro i hi
    obtain⟨z,_,hz⟩:=hm2 i i (by simp [hi])
    cases hcs:W.cells? 0 (a.add (i*q.sz)) q.sz with
    |none=>rw [hcs]at hz;simp at hz
    |some cs1=>
     rw [hcs]at hz
     have hsp:a.spot=none:=hsp0
     obtain⟨ab,ao,az⟩:=a
     simp only at hsp
     subst hsp
     rw [lg]at hcs
     obtain⟨c,E,fr,g1,g2⟩:=QW hcs h0'
     obtain⟨y,hy⟩:=hq.2 n cs1 z hz
     exact⟨c,E,fr,rfl,g1,y,by rw [<-g2];exact hy⟩
   obtain⟨c,E,fr,hsp,M,_⟩:=hcell 0 (by omega)
   have key: ∀m,m<=len-> ∃ys:List α,ys.length=m/\xE q (Ot W) ((c.toList.drop a.off).take (m*q.sz)) ys:=by
    intro m
    induction m with
    |zero=>intro _;exact⟨[],rfl,by simp [xE]⟩
    |succ m ih=>
     intro hm'
     obtain⟨ys,hy1,hy2⟩:=ih (by omega)
     obtain⟨c',E',fr',_,hb',y,hy⟩:=hcell m (by omega)
     rw [M]at hb'
     injection hb' with hb'
     injection hb' with e1
     subst e1
     refine⟨ys++[y],by simp [hy1],?_⟩
     have hsplit:(c.toList.drop a.off).take ((m+1)*q.sz)=(c.toList.drop a.off).take (m*q.sz)++(c.toList.drop (a.off+m*q.sz)).take q.sz:=by
      rw [wO,Nat.one_mul,List.take_add,qb]
     rw [hsplit]
     exact zd hy2 (Qi.2 hy)
   obtain⟨ys,hy1,hy2⟩:=key len (fa _)
   obtain⟨ab,ao,az⟩:=a
   simp only at hsp
   subst hsp
   exact⟨ys,some ⟨ab,ao,none⟩,cap,by rw [hy1],by omega,hmax,.inr ⟨ab,ao,c,E,fr,rfl,M,by rw [hy1];exact hy2⟩⟩
 ·cases V
def qF{q:Rp α}(h:P.underlying t=some (.slice e))(hc:P.cellsOf t=1)(h0:Nat.blt 0 q.sz=true)(hq:BW enc P W e q):BW enc P W t (f9 q):=⟨hc,fun fuel cs x V=>by
 have h0' :0<q.sz:=by simpa [wT] using h0
 cases fuel with
 |zero=>simp [DataW.trod]at V
 |succ n=>
  unfold DataW.trod at V
  rw [h]at V
  split at V
  all_goals try (injections;done)
  ·exact⟨[],none,0,rfl,fa _,lG _,.inl rfl⟩
  ·rename_i e' a len cap heq
   injection heq with e1
   injection e1 with e1
   subst e1
   exact Tk h0' hq V⟩
def ZY(enc:TypeId×Value->hg)(P:Program)(W:World){α:Type}(off:Nat)(l:List (TypeId×Nat))(r:Rp α):Prop:=
 ∀(fuel:Nat) (cs:List Value),cs.length=off+r.sz->(∀f∈l,∃x,DataW.trod enc P W 0 (fun _=>true) true fuel f.1 ((cs.drop f.2).take (P.cellsOf f.1))=some x)-> ∃y,r.rc (Ot W) (cs.drop off) y
def uR{t:Nat}(h:BW enc P W t r):ZY enc P W off [(t,off)] r:=fun fuel cs hl V=>by
 obtain⟨x,V⟩:=V _ (List.mem_singleton_self _)
 simp only at V
 rw [h.1,u0 (by simp;omega)]at V
 exact h.2 _ _ _ V
def ip{p:Rp α}{t:Nat}{l:List (TypeId×Nat)}(h:BW enc P W t p)(ho:off' =off+p.sz)(hr:ZY enc P W off' l q):ZY enc P W off ((t,off)::l) (dP p q):=fun fuel cs hl V=>by
 subst ho
 obtain⟨x,hx1⟩:=V _ (mp ..)
 simp only at hx1
 rw [h.1]at hx1
 obtain⟨y,hy⟩:=h.2 _ _ _ hx1
 obtain⟨z,hz⟩:=hr fuel cs (by rw [hl];show off+(p.sz+q.sz)=_;omega) fun f hf=>V f (lT _ hf)
 exact⟨(y,z),_,_,by rw [<-qb];exact(xQ _ _).symm,hy,hz⟩
def qi{l:List (TypeId×Nat)}{p:Rp α}{f:β->α}(Y:(P.underlying t).map (fun d=>match d with| .struct l=>(true,l.toList.map fun f=>(f.type,f.offset))|_=>(false,[]))=some (true,l))(hc:P.cellsOf t=p.sz)(hf: ∀y,∃x,f x=y)(hl:ZY enc P W 0 l p):BW enc P W t (rW p f):=⟨hc,fun fuel cs x V=>by
 obtain⟨fs,I,K⟩: ∃fs,P.underlying t=some (.struct fs)/\fs.toList.map (fun f=>(f.type,f.offset))=l:=by
  cases hu:P.underlying t with
  |none=>rw [hu]at Y;cases Y
  |some d=>
   rw [hu]at Y
   cases d<;>simp at Y
   exact⟨_,rfl,Y⟩
 cases fuel with
 |zero=>simp [DataW.trod]at V
 |succ n=>
  unfold DataW.trod at V
  rw [I]at V
  change (if cs.length=P.cellsOf t then(fs.toList.mapM fun f=>DataW.trod enc P W 0 (fun _=>true) true n f.type ((cs.drop f.offset).take (P.cellsOf f.type))).map (fun xs=>(DataW.agg (xs.map (·.1)),xs.flatMap (·.2)))else none)=some x at V
  split at V
  ·rename_i hlen
   cases hm:fs.toList.mapM (fun f=>DataW.trod enc P W 0 (fun _=>true) true n f.type ((cs.drop f.offset).take (P.cellsOf f.type)))with
   |none=>rw [hm]at V;simp at V
   |some r=>
    obtain⟨_,hm2⟩:=yl hm
    obtain⟨y,hy⟩:=hl n cs (by rw [hlen,hc];omega) (fun g H=>by
     rw [<-K,xT]at H
     obtain⟨f0,hf0,rfl⟩:=H
     obtain⟨i,hi⟩:=List.getElem?_of_mem hf0
     obtain⟨z,_,hz⟩:=hm2 i f0 hi
     exact⟨z,hz⟩)
    obtain⟨x',hx'⟩:=hf y
    refine⟨x',?_⟩
    show p.rc _ cs (f x')
    rw [hx']
    simpa using hy
  ·cases V⟩
def MO{W' :World}(h:jh s0 W S W' S'):Below W.heap.size W W' :=⟨h.os,h.tape,h.output,h.size,fun k hk=>h.heap k hk (fun h=>h)⟩
def B8(hl:laidOutB P=true){W W' :World}(M:Below W.heap.size W W'){sp:Nat->Bool}: ∀{ts:List TypeId} {vs:List Value} {ds:List (DataW hg)} {ps:List MemPlace},(∀t∈ts,P.readableRec t=true/\t<P.types.size)->
  DataW.TrodAll enc P W 0 (fun _=>true) true ts vs ds ps->(∀p∈ps,p.block<W.heap.size)->(∀p∈ps,sp p.block=true)->DataW.TrodAll enc P W' 0 sp true ts vs ds ps
 |[],[],[],_,_,h,_,_=>h
 |t::ts,v::vs,d::ds,_,hr,⟨p,q,I,K,e⟩,hlt,hsp=>by
  subst e
  have Y:=hr t (mp ..)
  exact⟨p,q,WideElems.Trod_stays hl Y.1 Y.2 I (fun x V=>M.same (hlt x (JO _ V))) (fun x V=>hsp x (JO _ V)),
   B8 hl M (fun t Y=>hr t (lT _ Y)) K (fun x V=>hlt x (List.mem_append_right _ V)) (fun x V=>hsp x (List.mem_append_right _ V)),rfl⟩
def Vs{f:Func}{s:ChangeSpec}{apart fresh handsOn again:Bool}{W' :World}{args:Array Value}{ds gs:List (DataW hg)}{before:List MemPlace}{tb:TypeId}(hl:laidOutB P=true)(hr: ∀t∈f.params.toList,P.readableRec t=true/\t<P.types.size)(hvs:s.vars=[])(hres:f.resultTypes= #[tb])(htb:P.underlying tb=some .bool)(hW:DataW.Whole enc P f.params.toList s.vars apart W args.toList ds gs before)(hs:s.fn hg (ds++gs)={results:=[.lit (.bool true)],args:=ds})(M:Below W.heap.size W W'):
  s.post enc P f apart fresh handsOn again W args (.bool true) W' :=by
 have hW0:=hW
 have hlt:=hW.lt
 obtain⟨pa,pv,hA,hV,rfl,hz,hn⟩:=hW
 rw [hvs]at hV
 have hpv:pv=[]:=by
  cases gs with
  |nil=>exact hV
  |cons g gs=>exact hV.elim
 subst hpv
 have hlt' : ∀p∈pa,p.block<W.heap.size:=fun p hp=>hlt p (by simpa using hp)
 have hargs: ∀sp:Nat->Bool,(∀p∈pa,sp p.block=true)->DataW.TrodAll enc P W' 0 sp true f.params.toList args.toList ds pa:=fun sp hsp=>B8 hl M hr hA hlt' hsp
 have hresT: ∀(b:Nat) (sp:Nat->Bool) (hd:Bool),DataW.TrodAll enc P W' b sp hd f.resultTypes.toList ((Value.bool true).resultList f.resultTypes.size) [.lit (.bool true)] []:=fun b sp hd=>by
  rw [hres]
  exact⟨[],[],⟨1,by simp [DataW.trod,htb,Value.cells]⟩,rfl,rfl⟩
 have hvT: ∀sp:Nat->Bool,DataW.TrodVars enc P W' sp s.vars (s.fn hg (ds++gs)).vars []:=fun sp=>by
  rw [hvs,hs];rfl
 have hargs' : ∀sp:Nat->Bool,(∀p∈pa,sp p.block=true)->DataW.TrodAll enc P W' 0 sp true f.params.toList args.toList (s.fn hg (ds++gs)).args pa:=fun sp hsp=>by rw [hs];exact hargs sp hsp
 have hres' : ∀(b:Nat) (sp:Nat->Bool) (hd:Bool),DataW.TrodAll enc P W' b sp hd f.resultTypes.toList ((Value.bool true).resultList f.resultTypes.size) (s.fn hg (ds++gs)).results []:=fun b sp hd=>by rw [hs];exact hresT b sp hd
 have hold: ∀p∈pa,(fun b=>decide (b<W.heap.size)) p.block=true:=fun p hp=>by simpa using hlt' p hp
 refine⟨ds,gs,pa++[],[],pa,[],hW0,hres' _ _ _,hargs' _ hold,hvT _,World.keptBut_mono (fun p hp=>⟨hp,?_⟩) (M.frame _),fun _=>?_⟩
 ·right;simpa using hp
 ·refine⟨?_,_,_,([]++pa)++[],⟨[]++pa,[],trodAll_append (hargs' _ (fun _ _=>rfl)) (hres' _ _ _),hvT _,rfl,?_,?_⟩,?_⟩
  ·intro j t r I K
   rw [hres]at I K
   cases j with
   |zero=>
    simp [Value.resultList]at I K
    subst I K
    simp [Value.okWide,htb,Cell.okWide,Cell.ok]
   |succ j=>simp at I
  ·intro b off hp
   have hp' :MemPlace.cell b off∈pa:=by simpa using hp
   have:=hlt' _ hp'
   rw [M.frozen (p:=⟨b,off,none⟩) this]
   exact hz b off (by simpa using hp')
  ·intro ha
   have:=hn ha
   simpa using this
  ·intro p hp _
   simpa using hp
end

section
def DH{α:Type}(r:Rp α)(ok:α->Prop):Rp α where
 sz:=r.sz
 agg:=r.agg
 rc:=fun S cs x=>r.rc S cs x/\ok x
 mono:=fun h k=>⟨r.mono h k.1,k.2⟩
 len:=fun k=>r.len k.1
 one:=fun k=>r.one k.1
 sc:=r.sc
def zJ(k:IntKind)(n:Int):Prop:=k.min<=n/\n<=k.max
def inS(s:C0):Prop:=s.length<=maxLen
def MZ{α:Type}(ok:α->Prop)(xs:List α):Prop:=xs.length<=maxLen/\ ∀x∈xs,ok x
def inT{α:Type}(_:α):Prop:=True
def G9(h:P.underlying t=some (.int k))(hc:P.cellsOf t=1):BW enc P W t (DH (rI k) (zJ k)):=⟨hc,fun fuel cs x V=>by
 cases fuel with
 |zero=>simp [DataW.trod]at V
 |succ n=>
  unfold DataW.trod at V
  rw [h]at V
  split at V
  all_goals try (injections;done)
  ·rename_i k1 k2 m heq
   injection heq with e
   injection e with e
   subst e
   split at V
   ·rename_i K
    obtain⟨rfl,h3⟩:=K
    simp only [Lit.wf,gN,j9]at h3
    exact⟨m,rfl,h3⟩
   ·cases V⟩
def UL(h:P.underlying t=some .string)(hc:P.cellsOf t=1):BW enc P W t (DH rS inS):=⟨hc,fun fuel cs x V=>by
 cases fuel with
 |zero=>simp [DataW.trod]at V
 |succ n=>
  unfold DataW.trod at V
  rw [h]at V
  split at V
  all_goals try (injections;done)
  ·rename_i s heq
   split at V
   ·rename_i K;exact⟨s.data.toList,rfl,(show s.data.toList.length<=maxLen from(show s.size=s.data.toList.length from rfl)▸K)⟩
   ·cases V⟩
def Tl(h:P.underlying t=some .bool)(hc:P.cellsOf t=1):BW enc P W t (DH rB inT):=
 ⟨hc,fun fuel cs x V=>by obtain⟨y,hy⟩:=(UM (enc:=enc) (W:=W) h hc).2 fuel cs x V;exact⟨y,hy,trivial⟩⟩
def Na{α:Type}(r' r:Rp α)(ok:α->Prop):Prop:=r'.sz=r.sz/\r'.agg=r.agg/\ ∀S cs x,r'.rc S cs x->r.rc S cs x/\ok x
def oH:Na (DH r ok) r ok:=⟨rfl,rfl,fun _ _ _ h=>h⟩
def Rz{α:Type}{r' r:Rp α}{ok:α->Prop}(h:Na r' r ok){S:SH}: ∀{xs:List α} {cs:List Value},xE r' S cs xs->xE r S cs xs/\ ∀x∈xs,ok x
 |[],_,k=>⟨k,fun x V=>by cases V⟩
 |x::xs,_,⟨a,b,e,I,K⟩=>by
  obtain⟨g1,g2⟩:=h.2.2 _ _ _ I
  obtain⟨g3,g4⟩:=Rz h K
  exact⟨⟨a,b,e,g1,g3⟩,fun y hy=>by
   rcases gW.1 hy with rfl|hy
   ·exact g2
   ·exact g4 y hy⟩
def xA{r' :Rp α}(h:Na r' r ok):Na (f9 r') (f9 r) (MZ ok):=⟨rfl,rfl,fun S cs xs ⟨a,cap,e,I,K,h3⟩=>by
 rcases h3 with h3|⟨b,off,c,E,fr,e1,e2,e3⟩
 ·exact⟨⟨a,cap,e,I,K,.inl h3⟩,by omega,fun x V=>by rw [h3]at V;cases V⟩
 ·rw [h.1]at e3
  obtain⟨g1,g2⟩:=Rz h e3
  exact⟨⟨a,cap,e,I,K,.inr ⟨b,off,c,E,fr,e1,e2,g1⟩⟩,by omega,g2⟩⟩
def jw{p' p:Rp α}{q' :Rp β}{f:α->Prop}{g:β->Prop}(h:Na p' p f)(k:Na q' q g):Na (dP p' q') (dP p q) (fun x=>f x.1/\g x.2):=
 ⟨by show p'.sz+q'.sz=p.sz+q.sz;rw [h.1,k.1],rfl,fun S cs x ⟨a,b,e,I,K⟩=>⟨⟨a,b,e,(h.2.2 _ _ _ I).1,(k.2.2 _ _ _ K).1⟩,(h.2.2 _ _ _ I).2,(k.2.2 _ _ _ K).2⟩⟩
def wZ{p' p:Rp α}{f:β->α}(h:Na p' p ok):Na (rW p' f) (rW p f) (fun x=>ok (f x)):=
 ⟨h.1,rfl,fun S cs x k=>h.2.2 _ _ _ k⟩
def SZ{r' :Rp α}(h:BW enc P W t r')(hr:Na r' r ok)(hag:r.agg=true){d:DataW hg}{ps:List MemPlace}(hv:DataW.Trod enc P W 0 (fun _=>true) true t v d ps)(hc:v= .agg v.cells): ∃y,(tD r y).p (Ot W) v/\ok y:=by
 obtain⟨fuel,V⟩:=hv
 obtain⟨y,hy⟩:=h.2 _ _ _ V
 obtain⟨g1,g2⟩:=hr.2.2 _ _ _ hy
 exact⟨y,⟨_,by unfold Rp.val;rw [hag,br rfl];exact hc,g1⟩,g2⟩
def Eo{l:Array Field}(Y:P.underlying t=some (.struct l))(hv:Value.okWide P W .any base t v):v= .agg v.cells:=by
 unfold Value.okWide at hv
 rw [Y]at hv
 obtain⟨cs,e,_⟩:=hv
 rw [e]
 rfl
end

variable{Ds:List (DataW Unit)}
section
variable{held:Bool}
def ToC(P:Program)(W:World)(held:Bool)(t:TypeId)(D:DataW Unit)(cells:List Value):Prop:=
 P.cellsOf t=cells.length/\ ∀fuel cs x,DataW.trod (fun _=>()) P W 0 (fun _=>true) held fuel t cs=some x->x.1=D->cs=cells
def vt{n:Int}(h:P.underlying t=some (.int k))(hc:P.cellsOf t=1):ToC P W held t (.lit (.int k n)) [.int k n]:=⟨hc,fun fuel cs x V hD=>by
 obtain⟨m,I,K,_⟩:=DataW.trod_int h V
 subst K
 simp only [DataW.lit.injEq,Lit.int.injEq,true_and]at hD
 rw [I,hD]⟩
def Lm{s:List UInt8}(h:P.underlying t=some .string)(hc:P.cellsOf t=1):ToC P W held t (.lit (.string s)) [.string ⟨s.toArray⟩]:=⟨hc,fun fuel cs x V hD=>by
 obtain⟨m,I,K,_⟩:=DataW.trod_string h V
 subst K
 simp only [DataW.lit.injEq,Lit.string.injEq]at hD
 subst hD
 rw [I]⟩
def FC(P:Program)(W:World)(held:Bool)(off:Nat)(l:List (TypeId×Nat))(Ds:List (DataW Unit))(cells:List Value):Prop:=
 ∀(n:Nat) (cs:List Value),cs.length=off+cells.length->(∀(i:Nat) f,l[i]? =some f-> ∃x,DataW.trod (fun _=>()) P W 0 (fun _=>true) held n f.1 ((cs.drop f.2).take (P.cellsOf f.1))=some x/\Ds[i]? =some x.1)->cs.drop off=cells
def Mm:FC P W held off [] [] []:=fun n cs hl _=>EF (by simp at hl;omega)
def oQ{l:List (TypeId×Nat)}{D:DataW Unit}{c:List Value}(h:ToC P W held t D c)(ho:off' =off+c.length)(k:FC P W held off' l Ds cells):FC P W held off ((t,off)::l) (D::Ds) (c++cells):=fun n cs hl V=>by
 obtain⟨x,I,K⟩:=V 0 (t,off) rfl
 simp only [Je,Dm]at K
 have h3:=h.2 n _ x I K.symm
 have h4:=k n cs (by rw [hl,ho,ju];omega) fun i f hf=>by simpa using V (i+1) f (by simpa using hf)
 have e:cs.drop off=(cs.drop off).take (P.cellsOf t)++cs.drop off' :=by
  rw [ho,<-h.1,<-qb,xQ]
 rw [e,h4]
 exact congrArg (· ++cells) h3
def Cx{l:List (TypeId×Nat)}(Y:(P.underlying t).map (fun d=>match d with| .struct l=>(true,l.toList.map fun f=>(f.type,f.offset))|_=>(false,[]))=some (true,l))(hc:P.cellsOf t=cells.length)(hf:FC P W held 0 l Ds cells):ToC P W held t (.agg Ds) cells:=⟨hc,fun fuel cs x V hD=>by
 obtain⟨fs,I,K⟩: ∃fs,P.underlying t=some (.struct fs)/\fs.toList.map (fun f=>(f.type,f.offset))=l:=by
  cases hu:P.underlying t with
  |none=>rw [hu]at Y;cases Y
  |some d=>
   rw [hu]at Y
   cases d<;>simp at Y
   exact⟨_,rfl,Y⟩
 obtain⟨xs,n,rfl,h3,h4,h5,h6⟩:=DataW.trod_struct I V
 rw [h3]at hD
 simp only [DataW.agg.injEq]at hD
 have:=hf n cs (by rw [h4,hc];omega) fun i f hi=>by
  rw [<-K,GU]at hi
  obtain⟨f0,hf0,rfl⟩:=yK.1 hi
  have h7:=h6 i f0 (by simpa using hf0)
  have hlt:i<xs.length:=by
   have:=(pP.1 hf0).1
   rw [h5];simpa using this
  rw [p5 hlt]at h7
  exact⟨xs[i],h7,by rw [<-hD];simp [hlt]⟩
 rwa [xM]at this⟩
def Xl{m:Nat}(Y:P.underlying t=some (.array m e))(hc:P.cellsOf t=cells.length)(hf:FC P W held 0 ((List.range m).map fun i=>(e,i*P.cellsOf e)) Ds cells):ToC P W held t (.agg Ds) cells:=⟨hc,fun fuel cs x V hD=>by
 obtain⟨xs,n,rfl,h3,h4,h5,h6⟩:=DataW.trod_array Y V
 rw [h3]at hD
 simp only [DataW.agg.injEq]at hD
 have:=hf n cs (by rw [h4,hc];omega) fun i f hi=>by
  rw [GU]at hi
  obtain⟨j,hj,rfl⟩:=yK.1 hi
  obtain⟨hlt,hj2⟩:=pP.1 hj
  simp at hlt hj2
  subst hj2
  have h7:=h6 i hlt
  have hlt' :i<xs.length:=by rw [h5];exact hlt
  rw [p5 hlt']at h7
  exact⟨xs[i],h7,by rw [<-hD];simp [hlt']⟩
 rwa [xM]at this⟩
def Ou: ∀{L:List (String×DataW Unit)} {ps:List MemPlace},DataW.LaidVars P W L ps-> ∀n d,(n,d)∈L-> ∃g t cs fuel p,P.globalNamed n=some g/\(P.globals[g]?).map (·.type)=some t/\W.var? P n=some cs/\DataW.trod (fun _=>()) P W 0 (fun _=>true) false fuel t cs.toList=some (d,p)
 |(_,_)::_,_,⟨g,t,cs,fuel,p,_,I,K,h3,h4,_,_⟩,_,_,.head _=>⟨g,t,cs,fuel,p,I,K,h3,h4⟩
 |(_,_)::_,_,⟨_,_,_,_,_,_,_,_,_,_,h,_⟩,n,d,.tail _ hm=>Ou h n d hm
def Mf{L:List (String×DataW Unit)}(h:laidMet P L W){n:String}{d:DataW Unit}(hm:(n,d)∈L){g:Nat}(H:P.globalNamed n=some g)(Y:(P.globals[g]?).map (·.type)=some t)(hc:ToC P W false t d cells):
  ∃c ak fr,W.heap[g]? =some (.cells c ak fr)/\c.toList.take cells.length=cells:=by
 obtain⟨ps,hL,_,_⟩:=h
 obtain⟨g',t',cs,fuel,p,I,K,h3,h4⟩:=Ou hL n d hm
 obtain rfl:=sI (H.symm.trans I)
 obtain rfl:=sI (Y.symm.trans K)
 have h5:=hc.2 fuel _ _ h4 rfl
 unfold World.var? at h3
 rw [H]at h3
 simp only [bt]at h3
 split at h3
 ·rename_i c ak fr M
  cases h3
  exact⟨_,_,_,M,by rw [h5,Dg]⟩
 ·cases h3
end


section
def hH{N:Fr}{y:α}{x:Operand}(hag:r.agg=true)(hr: ∀S,r.rc S [v] y)(h:bk N G x (tV (.agg #[v]))):bk N G x (tD r y):=fun S a hf=>⟨[v],by rw [Rp.val,br hag];exact h S a hf,hr S⟩
end

section
variable{t:ι->Ty}
end

section
def T7{x:α}{n:Int}{zs:List α}{y y' :Operand}{k' :IntKind}(ti:TI E.P ak sz bytes agg z)(hsz:r.sz=sz)(hz:Nat.beq z.length sz=true)(h128:Nat.ble bytes 2048=true)(Y:E.P.underlying t=some (.slice ak))(V: ∀S,r.rc S z x)(hy:bk E.N G y (tD (rI k) n))(hy' :bk E.N G y' (tD (rI k') n))(h:qe n x=some zs):
  EffOK E aK G ⟨some d,.makeSlice t y y',ty,pos,after,g⟩ (fun i=>gO r ak (i.h 0).1 (i.h 0).2 zs::aK) (fun i=>tO r (i.h 0).1 (i.h 0).2 zs):=fun a w S hs ho hf M=>by
 subst hsz
 obtain⟨i,zv,hi,I,K,h3,h4⟩:=ti.get
 obtain⟨m,rfl,hm,rfl⟩:=Al h
 have hyv:=dL.1 (hy S a hf)
 have hyv' :=dL.1 (hy' S a hf)
 have hz2:z.length=r.sz:=wQ hz
 have h128' :=rL h128
 have hbytes:(i.bytes:Int)*(m:Int)<=281474976710656:=by
  have:i.bytes*m<=2048*68719476736:=zP (by omega) hm
  have h5:((i.bytes*m:Nat):Int)<=281474976710656:=by omega
  rwa [Ag]at h5
 have hr:=run_make (P:=E.P) w t ak i zv Y hi h3 k k' (m:Int) (m:Int) (by omega) (Int.le_refl _) hbytes (by omega)
 rw [BH,I,h4]at hr
 obtain⟨he,hs'⟩:=tk (w:=w) (.cells (madeCells z.toArray (m*r.sz)) ak (0,0)) hs
 have hrun:(execOp a.eval ⟨some d,.makeSlice t y y',ty,pos,after,g⟩).run E.P w= .ok (.value (.slice (some ⟨w.heap.size,0,none⟩) m m)) (w.alloc (.cells (madeCells z.toArray (m*r.sz)) ak (0,0))):=by
  simp [execOp,hyv,hyv',hr]
 refine⟨fun c h=>(by cases h),?_⟩
 rw [hrun]
 have hfl:=flat_len hz2 m
 have hmc:=ym z m r.sz hz2
 have harr:Fi true r ak (some w.heap.size) m (List.replicate m x) (w.alloc (.cells (madeCells z.toArray (m*r.sz)) ak (0,0))) (S.set w.heap.size (.cells (madeCells z.toArray (m*r.sz)) ak (0,0))):=by
  refine⟨(List.replicate m z).flatten,⟨_,Af w _,by simp,by simp only [maxLen];omega,by rw [size_madeCells],?_⟩,yf V _ m,fun b M=>?_⟩
  ·rw [hmc,FD]
   exact u0 (by omega)
  ·rw [<-sI M]
   have e:madeCells z.toArray (m*r.sz)=((List.replicate m z).flatten).toArray:=by
    rw [<-hmc]
   rw [br rfl,<-e]
   exact qB _ _ _
 refine⟨_,_,oi (some w.heap.size) m,rfl,he.more fun _ M=>M.elim,hs',sZ ho he (e:=gO r ak (some w.heap.size) m (List.replicate m x)) harr (fun b M=>Di (sI M)) M,?_⟩;refine⟨?_,?_⟩
 ·show _=bw _ _ _
  rw [FD];rfl
 ·have h9:=sO harr
  rw [FD]at h9
  exact h9
end
def Ug{t:ι->Ty}(hf:P.funcs[f]? =some fn)(M:fn.body=some c)(hN:fn.ntmps=N)(hn:Nat.ble ts.length N=true)(h: ∀w0 S0,CG ⟨P,⟨N,[]⟩,CV O1,w0,S0,none⟩ (bodyPostM (fw none) 0 P fn (V2 ⟨P,⟨N,[]⟩,CV O1,w0,S0,none⟩ O1 t O2)) c O1 (vh 0 ts)):ea P f ts O1 t O2:=by
 subst hN
 intro w S vs hs hv ho
 exact lE.1 (callsIn_of_wp_marks (F:=fw none) (n:=0) hf M trivial (h w S _ w S ⟨jh.refl _ _ _,hs,mw ho fun f hf k hk=> .inr ⟨f,hf,hk⟩,oR hv _ (rL hn)⟩))
def Pg(x y c:Int):Option (Int×Int):=if 0<=x/\0<=y/\0<=c/\c<=1 then some ((x+y+c)%18446744073709551616,(x+y+c)/18446744073709551616)else none
section
def Oj{s u c:Int}{R:Int×Int}{x y z:Operand}(hf:E.P.funcs[f]? =some fn)(hname:(fn.name== "runtime.NumGoroutine")=false)(M:fn.body.isNone=true)(hn:Extern.findNext fn=none)(he:Extern.find fn=some add64Entry)(V:bk E.N G x (tD (rI .u64) s))(hy:bk E.N G y (tD (rI .u64) u))(hz:bk E.N G z (tD (rI .u64) c))(h:Pg s u c=some R):
  cz E aK G ⟨dst,.call ⟨.value (.func f),#[x,y,z],ats⟩,ty,pos,after,g⟩ (tT [tD (rI .u64) R.1,tD (rI .u64) R.2]):= .of_pure fun a w S _ _ hF=>by
 have I:a.eval x= .int .u64 s:=dL.1 (V S a hF)
 have K:a.eval y= .int .u64 u:=dL.1 (hy S a hF)
 have h5:a.eval z= .int .u64 c:=dL.1 (hz S a hF)
 unfold Pg at h
 split at h
 ·rename_i hc
  cases h
  refine⟨.tuple #[.int .u64 ((s+u+c)%18446744073709551616),.int .u64 ((s+u+c)/18446744073709551616)],?_,[_,_],rfl,dL.2 rfl,dL.2 rfl,trivial⟩
  have h3:=run_callFunc_extern hf hname M hn he #[.int .u64 s,.int .u64 u,.int .u64 c] w
  rw [run_add64 s u c hc.1 hc.2.1 hc.2.2.1 hc.2.2.2]at h3
  have h0:a.eval (.func f)= .func (.func f) #[] #[]:=rfl
  simp [execOp,resolve,h0,Deferred.ofValue,invoke,I,K,h5,h3,Result.andThen]
 ·cases h
end

def J{α:Sort _}{a:α}:a=a:=rfl
def O:True:=trivial
abbrev bD(x:Int):Ty:=tD (rI .i64) x
abbrev gM(x:Bool):Ty:=tD rB x
abbrev kP{α:Type}(l:List α):Ty:=tD (rI .i64) (l.length:Int)
abbrev sH:Rp (List Int):=f9 (rI .i64)
abbrev kq(l:List Int):Ty:=tD (f9 (rI .i64)) l
abbrev cr{α:Type}(r:Rp α)(l:List α):Ty:=tD (f9 r) l
abbrev my{α:Type}(l:Option Nat)(c:Nat)(xs:List α):Ty:=tV (bw l c xs.length)
def bf: ∀{G' G:nt},G'.map (fun p=>cL G p.1)=G'.map (fun p=>some p.2)->PS G' G
 |[],_,_=>trivial
 |(_,_)::_,_,h=>⟨(B0 h).1,bf (B0 h).2⟩

variable{xt:TypeId}
section
def gL{t:Ty}(h:cL G x=some t):cz E aK G ⟨dst,.move (.tmp x),ty,pos,after,g⟩ t:=cv (Y h)
def sE{t:Ty}(h:cL G x=some t):cz E aK G ⟨dst,.assign (.tmp x),ty,pos,after,g⟩ t:=bp (Y h)
def Z2{n:Int}:cz E aK G ⟨dst,.assign (.const (.int k n)),ty,pos,after,g⟩ (tD (rI k) n):=bp hI
def zab{b:Bool}:cz E aK G ⟨dst,.assign (.const (.bool b)),ty,pos,after,g⟩ (tD rB b):=bp hB
def nE{x:α}(ti:TI E.P U sz bytes agg z)(hp:cL G p=some (bF r x))(hs:(r.sz,r.agg)=(sz,agg)):
  cz E aK G ⟨dst,.load U (.tmp p),ty,pos,after,g⟩ (tD r x):=cJ ti (yH hs).1 (yH hs).2 (Y hp)
def ic{get:α->β}{x:α}{i:Nat}(hf:dl E.P ak i=some (off,sz))(hq:qZ r off q get)(hp:cL G p=some (bF r x))(h0:(!(Nat.beq sz 0)&&Nat.ble (off+q.sz) r.sz)=true):cz E aK G ⟨dst,.fieldAddr ak (.tmp p) i,ty,pos,after,g⟩ (bF q (get x)):=
 oK hf (by cases h:Nat.beq sz 0<;>simp [h]at h0 ⊢) hq (by revert h0;cases Nat.ble (off+q.sz) r.sz<;>simp) (Y hp)
def UC(hu:E.P.underlying t=some (.slice e))(V:cL G x=some (tD (f9 r) xs)):
  cz E aK G ⟨dst,.call ⟨.builtin .len,#[.tmp x],#[t]⟩,ty,pos,after,g⟩ (tD (rI .i64) (xs.length:Int)):=kZ hu (Y V)
def vo{i:Nat}{t:Ty}(hi:ts[i]? =some t)(V:cL G x=some (tT ts)):cz E aK G ⟨dst,.extract (.tmp x) i,ty,pos,after,g⟩ t:=Qw hi (Y V)
def zbx{v:α}(V:cL G x=some (tD r v)):cz E aK G ⟨dst,.box ak (.tmp x),ty,pos,after,g⟩ (bF r v):=Qx (Y V)
def UB{c:Nat}{b q:Bool}(hc:cL G c=some (tD rB b))(V:cL G x=some (nK b (tD rB q))):cz E aK G ⟨dst,.pick (.tmp c) (.tmp x) (.const (.bool false)),ty,pos,after,g⟩ (tD rB (b&&q)):=gG (Y hc) (fun M=>bG V M)
def zpo{c:Nat}{b q:Bool}(hc:cL G c=some (tD rB b))(V:cL G x=some (nK (!b) (tD rB q))):cz E aK G ⟨dst,.pick (.tmp c) (.const (.bool true)) (.tmp x),ty,pos,after,g⟩ (tD rB (b||q)):=nW (Y hc) (fun M=>bG V (pQ M))
variable{y:Nat}{m n:Int}
def zlt(V:cL G x=some (tD (rI k) m))(hy:cL G y=some (tD (rI k) n)):cz E aK G ⟨dst,.binOp .lss xt (.tmp x) (.tmp y) yt,ty,pos,after,g⟩ (tD rB (decide (m<n))):=du (Y V) (Y hy)
def Uy(V:cL G x=some (tD (rI j) m)):cz E aK G ⟨dst,.binOp .eql xt (.tmp x) (.const (.int j n)) yt,ty,pos,after,g⟩ (tD rB (m==n)):=iK (Y V) hI
def zni(V:cL G x=some (tD (rI j) m)):cz E aK G ⟨dst,.binOp .neq xt (.tmp x) (.const (.int j n)) yt,ty,pos,after,g⟩ (tD rB (m !=n)):=d6 (Y V) hI
def zW{y:α}{x:Nat}{k:IntKind}{i:Int}(hu:E.P.underlying t=some (.slice e))(ti:TI E.P e sz bytes agg z)(hsz:r.sz=sz)(V:cL G x=some (tD (f9 r) xs))(hi:cL G ix=some (tD (rI k) i))(hy:di xs i=some y):
  cz E aK G ⟨dst,.indexAddr t (.tmp x) (.tmp ix),ty,pos,after,g⟩ (bF r y):=bm hu ti hsz (Y V) (Y hi) hy
def zin{i:Nat}{x:Nat}{xt yt:TypeId}(hi:i<9223372036854775807)(V:cL G x=some (tD (rI .i64) (i:Int))):
  cz E aK G ⟨dst,.binOp .add xt (.tmp x) (.const (.int .i64 1)) yt,ty,pos,after,g⟩ (tD (rI .i64) ((i+1:Nat):Int)):=ut hi (Y V) hI
def tp{i o:Nat}(n:Nat)(hf:dl E.P ak i=some (off,sz))(h0:Nat.beq sz 0=false)(hp:cL G p=some (tV (ba b o)))(he:o+off=n):cz E aK G ⟨dst,.fieldAddr ak (.tmp p) i,ty,pos,after,g⟩ (tV (ba b n)):=rl (n:=n) hf h0 (Y hp) he
end
variable{op:Op}
section
variable{l:List Oper}
def zo{t:Ty}(hd:Nat.blt d E.N.n=true)(h:cz E aK G ⟨some d,op,ty,pos,after,none⟩ t)(k:RG E ops aJ l aK ((d,t)::G)):
  RG E ops aJ (⟨some d,op,ty,pos,after,none⟩::l) aK G:=ru h hd k
def ww(n d:Nat)(r:Option Ty):Option Ty:=if Nat.blt d n then r else none
def dG{r:Option Ty}{t:Ty}(h:ww n d r=some t):Nat.blt d n=true/\r=some t:=by
 unfold ww at h;split at h
 case isTrue I=>exact⟨I,h⟩
 case isFalse=>cases h
def Q{t:Ty}(h:ww E.N.n d (cL G x)=some t)(k:RG E ops aJ l aK ((d,t)::G)):
  RG E ops aJ (⟨some d,.move (.tmp x),ty,pos,after,none⟩::l) aK G:=ru (cv (Y (dG h).2)) (dG h).1 k
def dC{t:Ty}(h:ww E.N.n d (cL G x)=some t)(k:RG E ops aJ l aK ((d,t)::G)):
  RG E ops aJ (⟨some d,.assign (.tmp x),ty,pos,after,none⟩::l) aK G:=ru (bp (Y (dG h).2)) (dG h).1 k
def bB(h:CG E aJ y aK G):RG E ops (Exit.then (y.wpIn (fw E.r) 0 E.P aJ) aJ) [] aK G:=aY (ap h)
def Z{id:Nat}{l:List Oper}(h:RG E l.toArray (Exit.then (y.wpIn (fw E.r) 0 E.P aJ) aJ) l aK G):CG E aJ (.seq (.region id l.toArray false) y) aK G:=aA (au h)
def gp{β:Type _}{X ht:Option β}{r:β}{c:Nat}{x:Code}{b:Bool}(h:(if b=true then X else ht)=some r)(M:cL G c=some (tD rB b))(V:X=some r->CG E aJ x aK G)(hy:ht=some r->CG E aJ y aK G):CG E aJ (.cond (.tmp c) x y) aK G:=
 rJ (Y M) (fun hc=>V (ct h hc)) (fun hc=>hy (cf h hc))
def dZ(h:CG E aJ y aK G):CG E (Exit.then (y.wpIn (fw E.r) 0 E.P aJ) aJ) .skip aK G:=bc (ap h)
def zgt{j gs:Nat}{b:Bool}{t:Ty}(hj:(ops[j]?).bind (·.dst)=some gs)(H:ww E.N.n gs (ww E.N.n d (cL G gs))=some (tD rB b))(h:b=true->cz E aK G ⟨some d,op,ty,pos,after,some (j,true)⟩ t)(k:RG E ops aJ l aK ((d,nK b t)::G)):RG E ops aJ (⟨some d,op,ty,pos,after,some (j,true)⟩::l) aK G:=ZR hj (dG H).1 (dG (dG H).2).2 (dG (dG H).2).1 h k
def zgf{j gs:Nat}{b:Bool}{t:Ty}(hj:(ops[j]?).bind (·.dst)=some gs)(H:ww E.N.n gs (ww E.N.n d (cL G gs))=some (tD rB b))(h:(!b)=true->cz E aK G ⟨some d,op,ty,pos,after,some (j,false)⟩ t)(k:RG E ops aJ l aK ((d,nK (!b) t)::G)):RG E ops aJ (⟨some d,op,ty,pos,after,some (j,false)⟩::l) aK G:=ZS hj (dG H).1 (dG (dG H).2).2 (dG (dG H).2).1 h k
end
def ci{α:Type _}{β:Type _}{x:Option α}{k:α->Option β}{r:β}{P:Prop}(h:x.bind k=some r)(f: ∀y,x=some y->k y=some r->P):P:=by
 obtain⟨y,I,K⟩:=bs h;exact f y I K
variable{u1:Ty}
section
variable{l:List Oper}{i:Nat}{t:Ty}
def Gp{a b c:Bool}(h:(a&&b&&c)=true):a=true/\b=true/\c=true:=by revert h;cases a<;>cases b<;>cases c<;>simp
def isn{x:Option α}(h:x.isNone=true):x=none:=by cases x;rfl;cases h
def PI(h:ts[i]? =some t)(k:cz E aK [] o t)(M:(jq i o&&o.guard.isNone)=true:=by exact rfl): ∃(needs:List Nd) (t:Ty),ts[i]? =some t/\zO G ts needs/\(needs.all (va l o i))=true/\jq i o=true/\bL E aK l.toArray (m5 needs) o t:=
 ⟨[],t,h,trivial,rfl,(Fz.1 M).1,ai (isn (Fz.1 M).2) k⟩
def jH(a:Nat)(h:ts[i]? =some t)(hu:BX G ts ⟨a,u,none⟩)(k:cz E aK [(a,u)] o t)(M:([(⟨a,u,none⟩:Nd)].all (va l o i)&&jq i o&&o.guard.isNone)=true:=by exact rfl): ∃(needs:List Nd) (t:Ty),ts[i]? =some t/\zO G ts needs/\(needs.all (va l o i))=true/\jq i o=true/\bL E aK l.toArray (m5 needs) o t:=
 ⟨[(⟨a,u,none⟩:Nd)],t,h,⟨hu,trivial⟩,(Gp M).1,(Gp M).2.1,ai (isn (Gp M).2.2) k⟩
def cT(a:Nat)(j:Nat)(h:ts[i]? =some t)(hu:BX G ts ⟨a,u,(some j)⟩)(k:cz E aK [(a,u)] o t)(M:([(⟨a,u,(some j)⟩:Nd)].all (va l o i)&&jq i o&&o.guard.isNone)=true:=by exact rfl): ∃(needs:List Nd) (t:Ty),ts[i]? =some t/\zO G ts needs/\(needs.all (va l o i))=true/\jq i o=true/\bL E aK l.toArray (m5 needs) o t:=
 ⟨[(⟨a,u,(some j)⟩:Nd)],t,h,⟨hu,trivial⟩,(Gp M).1,(Gp M).2.1,ai (isn (Gp M).2.2) k⟩
def jF(a:Nat)(a1:Nat)(j1:Nat)(h:ts[i]? =some t)(hu:BX G ts ⟨a,u,none⟩)(hu1:BX G ts ⟨a1,u1,(some j1)⟩)(k:bL E aK l.toArray [(a,u),(a1,u1)] o t)(M:([(⟨a,u,none⟩:Nd),⟨a1,u1,(some j1)⟩].all (va l o i)&&jq i o)=true:=by exact rfl): ∃(needs:List Nd) (t:Ty),ts[i]? =some t/\zO G ts needs/\(needs.all (va l o i))=true/\jq i o=true/\bL E aK l.toArray (m5 needs) o t:=
 ⟨[(⟨a,u,none⟩:Nd),⟨a1,u1,(some j1)⟩],t,h,⟨hu,hu1,trivial⟩,(Fz.1 M).1,(Fz.1 M).2,k⟩
def cM(a:Nat)(j:Nat)(a1:Nat)(j1:Nat)(h:ts[i]? =some t)(hu:BX G ts ⟨a,u,(some j)⟩)(hu1:BX G ts ⟨a1,u1,(some j1)⟩)(k:cz E aK [(a,u),(a1,u1)] o t)(M:([(⟨a,u,(some j)⟩:Nd),⟨a1,u1,(some j1)⟩].all (va l o i)&&jq i o&&o.guard.isNone)=true:=by exact rfl): ∃(needs:List Nd) (t:Ty),ts[i]? =some t/\zO G ts needs/\(needs.all (va l o i))=true/\jq i o=true/\bL E aK l.toArray (m5 needs) o t:=
 ⟨[(⟨a,u,(some j)⟩:Nd),⟨a1,u1,(some j1)⟩],t,h,⟨hu,hu1,trivial⟩,(Gp M).1,(Gp M).2.1,ai (isn (Gp M).2.2) k⟩
def fq(a:Nat)(j:Nat)(a1:Nat)(j1:Nat)(h:ts[i]? =some t)(hu:BX G ts ⟨a,u,(some j)⟩)(hu1:BX G ts ⟨a1,u1,(some j1)⟩)(k:bL E aK l.toArray [(a,u),(a1,u1)] o t)(M:([(⟨a,u,(some j)⟩:Nd),⟨a1,u1,(some j1)⟩].all (va l o i)&&jq i o)=true:=by exact rfl): ∃(needs:List Nd) (t:Ty),ts[i]? =some t/\zO G ts needs/\(needs.all (va l o i))=true/\jq i o=true/\bL E aK l.toArray (m5 needs) o t:=
 ⟨[(⟨a,u,(some j)⟩:Nd),⟨a1,u1,(some j1)⟩],t,h,⟨hu,hu1,trivial⟩,(Fz.1 M).1,(Fz.1 M).2,k⟩
def JQ(a:Nat)(j:Nat)(a1:Nat)(j1:Nat)(a2:Nat)(j2:Nat){u2:Ty}(h:ts[i]? =some t)(hu:BX G ts ⟨a,u,(some j)⟩)(hu1:BX G ts ⟨a1,u1,(some j1)⟩)(hu2:BX G ts ⟨a2,u2,(some j2)⟩)(k:cz E aK [(a,u),(a1,u1),(a2,u2)] o t)(M:([(⟨a,u,(some j)⟩:Nd),⟨a1,u1,(some j1)⟩,⟨a2,u2,(some j2)⟩].all (va l o i)&&jq i o&&o.guard.isNone)=true:=by exact rfl): ∃(needs:List Nd) (t:Ty),ts[i]? =some t/\zO G ts needs/\(needs.all (va l o i))=true/\jq i o=true/\bL E aK l.toArray (m5 needs) o t:=
 ⟨[(⟨a,u,(some j)⟩:Nd),⟨a1,u1,(some j1)⟩,⟨a2,u2,(some j2)⟩],t,h,⟨hu,hu1,hu2,trivial⟩,(Gp M).1,(Gp M).2.1,ai (isn (Gp M).2.2) k⟩
def lZ(a:Nat)(j:Nat)(a1:Nat)(j1:Nat)(a2:Nat)(j2:Nat){u2:Ty}(h:ts[i]? =some t)(hu:BX G ts ⟨a,u,(some j)⟩)(hu1:BX G ts ⟨a1,u1,(some j1)⟩)(hu2:BX G ts ⟨a2,u2,(some j2)⟩)(k:bL E aK l.toArray [(a,u),(a1,u1),(a2,u2)] o t)(M:([(⟨a,u,(some j)⟩:Nd),⟨a1,u1,(some j1)⟩,⟨a2,u2,(some j2)⟩].all (va l o i)&&jq i o)=true:=by exact rfl): ∃(needs:List Nd) (t:Ty),ts[i]? =some t/\zO G ts needs/\(needs.all (va l o i))=true/\jq i o=true/\bL E aK l.toArray (m5 needs) o t:=
 ⟨[(⟨a,u,(some j)⟩:Nd),⟨a1,u1,(some j1)⟩,⟨a2,u2,(some j2)⟩],t,h,⟨hu,hu1,hu2,trivial⟩,(Fz.1 M).1,(Fz.1 M).2,k⟩
end

def zE{r s:Option Ty}{t:Ty}(h:(ww n d r,s)=(some t,some u)):Nat.blt d n=true/\r=some t/\s=some u:=
 ⟨(dG (yH h).1).1,(dG (yH h).1).2,(yH h).2⟩
def Z4(G:nt):Operand->Option Ty
 | .tmp k=>cL G k
 | .const (.int k n)=>some (tD (rI k) n)
 | .const (.bool b)=>some (tD rB b)
 |_=>none
def PN{N:Fr}{t:Ty}: ∀{x:Operand},Z4 G x=some t->bk N G x t
 | .tmp _,h=>Y h
 | .const (.int _ _),h=>by cases h;exact hI
 | .const (.bool _),h=>by cases h;exact hB
def bj{N:Fr}{G:nt}: ∀{xs:List Operand} {ts:List Ty},xs.map (Z4 G)=ts.map some->kp N G xs ts
 |[],[],_=>trivial
 |_::_,_::_,h=>⟨PN (B0 h).1,bj (B0 h).2⟩

variable{after2:Array Edge}{id' :Nat}{pos2:String}{tl:List α}{ty2:TypeId}
section
variable{l:List Oper}{t:Ty}
def T(h:cz E aK G ⟨some d,op,ty,pos,after,none⟩ t)(k:RG E ops aJ l aK ((d,t)::G))(hd:Nat.blt d E.N.n=true:=by exact rfl):
  RG E ops aJ (⟨some d,op,ty,pos,after,none⟩::l) aK G:=ru h hd k
def bn{x:α}(ti:TI E.P U sz bytes agg z)(hp:ww E.N.n d (cL G p)=some (bF r x))(k:RG E ops aJ l aK ((d,tD r x)::G))(hs:(r.sz,r.agg)=(sz,agg):=by exact rfl):RG E ops aJ (⟨some d,.load U (.tmp p),ty,pos,after,none⟩::l) aK G:=zo (dG hp).1 (nE ti (dG hp).2 hs) k
def wV{get:α->β}{x:α}{i:Nat}(hf:dl E.P ak i=some (off,sz))(hq:qZ r off q get)(hp:ww E.N.n d (cL G p)=some (bF r x))(k:RG E ops aJ l aK ((d,bF q (get x))::G))(h0:(!(Nat.beq sz 0)&&Nat.ble (off+q.sz) r.sz)=true:=by exact rfl):
  RG E ops aJ (⟨some d,.fieldAddr ak (.tmp p) i,ty,pos,after,none⟩::l) aK G:=zo (dG hp).1 (ic hf hq (dG hp).2 h0) k
def bg{get:α->β}{x:α}{i s2:Nat}{d2 p2:Nat}(hf:dl E.P ak i=some (off,sz))(hq:qZ r off q get)(ti:TI E.P U s2 bytes agg z)(hp:ww E.N.n d (cL G p)=some (bF r x))(k:RG E ops aJ l aK ((d2,tD q (get x))::(d,bF q (get x))::G))(h0:(!(Nat.beq sz 0)&&Nat.ble (off+q.sz) r.sz)=true:=by exact rfl)(hp2:ww E.N.n d2 (cL ((d,bF q (get x))::G) p2)=some (bF q (get x)):=by exact rfl)(hs:(q.sz,q.agg)=(s2,agg):=by exact rfl):
  RG E ops aJ (⟨some d,.fieldAddr ak (.tmp p) i,ty,pos,after,none⟩::⟨some d2,.load U (.tmp p2),ty2,pos2,after2,none⟩::l) aK G:=wV hf hq hp (bn ti hp2 k hs) h0
def eZ{i o:Nat}(n:Nat)(hf:dl E.P ak i=some (off,sz))(hp:ww E.N.n d (cL G p)=some (tV (ba b o)))(k:RG E ops aJ l aK ((d,tV (ba b n))::G))(h0:Nat.beq sz 0=false:=by exact rfl)(he:o+off=n:=by exact rfl):RG E ops aJ (⟨some d,.fieldAddr ak (.tmp p) i,ty,pos,after,none⟩::l) aK G:=zo (dG hp).1 (tp n hf h0 (dG hp).2 he) k
def bv{i:Nat}(V:ww E.N.n d (cL G x)=some (tT ts))(hi:ts[i]? =some t)(k:RG E ops aJ l aK ((d,t)::G)):RG E ops aJ (⟨some d,.extract (.tmp x) i,ty,pos,after,none⟩::l) aK G:=zo (dG V).1 (vo hi (dG V).2) k
def bh{n:Int}(k:RG E ops aJ l aK ((d,tD (rI j) n)::G))(hd:Nat.blt d E.N.n=true:=by exact rfl):RG E ops aJ (⟨some d,.assign (.const (.int j n)),ty,pos,after,none⟩::l) aK G:=zo hd Z2 k
def ca{b:Bool}(k:RG E ops aJ l aK ((d,tD rB b)::G))(hd:Nat.blt d E.N.n=true:=by exact rfl):RG E ops aJ (⟨some d,.assign (.const (.bool b)),ty,pos,after,none⟩::l) aK G:=zo hd zab k
def ck(hu:E.P.underlying st=some (.slice e))(V:ww E.N.n d (cL G x)=some (tD (f9 r) xs))(k:RG E ops aJ l aK ((d,tD (rI .i64) (xs.length:Int))::G)):
  RG E ops aJ (⟨some d,.call ⟨.builtin .len,#[.tmp x],#[st]⟩,ty,pos,after,none⟩::l) aK G:=zo (dG V).1 (UC hu (dG V).2) k
def bO{v:α}(V:ww E.N.n d (cL G x)=some (tD r v))(k:RG E ops aJ l aK ((d,bF r v)::G)):RG E ops aJ (⟨some d,.box ak (.tmp x),ty,pos,after,none⟩::l) aK G:=zo (dG V).1 (zbx (dG V).2) k
def dv{c:Nat}{b q:Bool}(h:(ww E.N.n d (cL G c),cL G x)=(some (tD rB b),some (nK b (tD rB q))))(k:RG E ops aJ l aK ((d,tD rB (b&&q))::G)):
  RG E ops aJ (⟨some d,.pick (.tmp c) (.tmp x) (.const (.bool false)),ty,pos,after,none⟩::l) aK G:=zo (zE h).1 (UB (zE h).2.1 (zE h).2.2) k
def fj{c:Nat}{b q:Bool}(h:(ww E.N.n d (cL G c),cL G x)=(some (tD rB b),some (nK (!b) (tD rB q))))(k:RG E ops aJ l aK ((d,tD rB (b||q))::G)):
  RG E ops aJ (⟨some d,.pick (.tmp c) (.const (.bool true)) (.tmp x),ty,pos,after,none⟩::l) aK G:=zo (zE h).1 (zpo (zE h).2.1 (zE h).2.2) k
section
variable{y:Nat}{m n:Int}
def kw(h:(ww E.N.n d (cL G x),cL G y)=(some (tD (rI j) m),some (tD (rI j) n)))(k:RG E ops aJ l aK ((d,tD rB (decide (m<n)))::G)):
  RG E ops aJ (⟨some d,.binOp .lss xt (.tmp x) (.tmp y) yt,ty,pos,after,none⟩::l) aK G:=zo (zE h).1 (zlt (zE h).2.1 (zE h).2.2) k
def bP(V:ww E.N.n d (cL G x)=some (tD (rI j) m))(k:RG E ops aJ l aK ((d,tD rB (m==n))::G)):RG E ops aJ (⟨some d,.binOp .eql xt (.tmp x) (.const (.int j n)) yt,ty,pos,after,none⟩::l) aK G:=zo (dG V).1 (Uy (dG V).2) k
def eN(V:ww E.N.n d (cL G x)=some (tD (rI j) m))(k:RG E ops aJ l aK ((d,tD rB (m !=n))::G)):RG E ops aJ (⟨some d,.binOp .neq xt (.tmp x) (.const (.int j n)) yt,ty,pos,after,none⟩::l) aK G:=zo (dG V).1 (zni (dG V).2) k
def fV{c:Bool}(V:cL G x=some (nK c (tD (rI j) m)))(hc:c=true):cz E aK G ⟨dst,.binOp .eql xt (.tmp x) (.const (.int j n)) yt,ty,pos,after,g⟩ (tD rB (m==n)):=iK (bG V hc) hI
def sK{c:Bool}(V:cL G x=some (nK c (tD (rI j) m)))(hc:c=true):cz E aK G ⟨dst,.binOp .neq xt (.tmp x) (.const (.int j n)) yt,ty,pos,after,g⟩ (tD rB (m !=n)):=d6 (bG V hc) hI
def eY{i a c id:Nat}{z w:Code}(V:xs.drop i=[])(h:(ww E.N.n d (cL G a),cL G b)=(some (tD (rI .i64) (i:Int)),some (tD (rI .i64) (xs.length:Int))))(k:AT E aJ .normal aK ((d,tD rB (decide ((i:Int)<(xs.length:Int))))::G))(hc:cL ((d,tD rB (decide ((i:Int)<(xs.length:Int))))::G) c=some (tD rB (decide ((i:Int)<(xs.length:Int)))):=by exact rfl):
  LG E (Exit.inBlock id aJ) (.seq (.region id' [⟨some d,.binOp .lss xt (.tmp a) (.tmp b) yt,ty,pos,after,none⟩].toArray false) (.seq (.cond (.tmp c) z (.exit id)) w)) aK G:=
 cU<|Z<|kw h<|bB<|aA<|pr (Y hc) (KG V)<|d7<|aH (aH (cF k))
def eX{e:α}{i a c:Nat}{z w:Code}(V:xs.drop i=e::tl)(h:(ww E.N.n d (cL G a),cL G b)=(some (tD (rI .i64) (i:Int)),some (tD (rI .i64) (xs.length:Int))))(k:CG E (Exit.then (AM E.r E.P (.seq (.region id' [⟨some d,.binOp .lss xt (.tmp a) (.tmp b) yt,ty,pos,after,none⟩].toArray false) (.seq (.cond (.tmp c) .skip z) w)) aJ) aJ) w aK ((d,tD rB (decide ((i:Int)<(xs.length:Int))))::G))(hc:cL ((d,tD rB (decide ((i:Int)<(xs.length:Int))))::G) c=some (tD rB (decide ((i:Int)<(xs.length:Int)))):=by exact rfl):
  LG E aJ (.seq (.region id' [⟨some d,.binOp .lss xt (.tmp a) (.tmp b) yt,ty,pos,after,none⟩].toArray false) (.seq (.cond (.tmp c) .skip z) w)) aK G:=
 cU<|Z<|kw h<|bB<|aA<|pq (Y hc) (Iy V)<|dZ k
end
def Dt{y:α}{i:Int}(hu:E.P.underlying st=some (.slice e))(ti:TI E.P e sz bytes agg z)(h:(ww E.N.n d (cL G x),cL G ix)=(some (tD (f9 r) xs),some (tD (rI j) i)))(hy:di xs i=some y)(k:RG E ops aJ l aK ((d,bF r y)::G))(hsz:r.sz=sz:=by exact rfl):
  RG E ops aJ (⟨some d,.indexAddr st (.tmp x) (.tmp ix),ty,pos,after,none⟩::l) aK G:=zo (zE h).1 (zW hu ti hsz (zE h).2.1 (zE h).2.2 hy) k
def cW{y:α}{i:Int}{d2 p2:Nat}(hu:E.P.underlying st=some (.slice e))(ti:TI E.P e sz bytes agg z)(h:(ww E.N.n d (cL G x),cL G ix)=(some (tD (f9 r) xs),some (tD (rI j) i)))(hy:di xs i=some y)(k:RG E ops aJ l aK ((d2,tD r y)::(d,bF r y)::G))(hsz:r.sz=sz:=by exact rfl)(hp2:ww E.N.n d2 (cL ((d,bF r y)::G) p2)=some (bF r y):=by exact rfl)(hs:(r.sz,r.agg)=(sz,agg):=by exact rfl):
  RG E ops aJ (⟨some d,.indexAddr st (.tmp x) (.tmp ix),ty,pos,after,none⟩::⟨some d2,.load e (.tmp p2),ty2,pos2,after2,none⟩::l) aK G:=Dt hu ti h hy (bn ti hp2 k hs) hsz
def be{set:α->β->α}{x:α}{y:β}{v:Nat}{ty:TypeId}(ti:TI E.P U sz bytes agg z)(hset:lh r off q set)(h:(cL G p,cL G v)=(some (tV (ba b off)),some (tD q y)))(k:RG E ops aJ l (bx r ak b (set x y)::aK) G)(hsz:q.sz=sz:=by exact rfl)(hoff:Nat.ble (off+q.sz) r.sz=true:=by exact rfl):
  RG E ops aJ (⟨none,.store U (.tmp p) (.tmp v),ty,pos,after,none⟩::l) (bx r ak b x::aK) G:=dA ti hsz hset hoff (Y (yH h).1) (Y (yH h).2) k
def Rj(n:Nat)(ops:Array Oper)(d j:Nat)(G:nt):Option Ty:=((ops[j]?).bind (·.dst)).bind fun gs=>ww n gs (ww n d (cL G gs))
def G3{d j:Nat}{ops:Array Oper}{t:Ty}(h:Rj n ops d j G=some t): ∃gs,(ops[j]?).bind (·.dst)=some gs/\ww n gs (ww n d (cL G gs))=some t:=by
 unfold Rj at h
 cases H:(ops[j]?).bind (·.dst)with
 |none=>rw [H]at h;cases h
 |some gs=>rw [H]at h;exact⟨gs,rfl,h⟩
def aw{j:Nat}{b:Bool}(H:Rj E.N.n ops d j G=some (tD rB b))(h:b=true->cz E aK G ⟨some d,op,ty,pos,after,some (j,true)⟩ t)(k:RG E ops aJ l aK ((d,nK b t)::G)):
  RG E ops aJ (⟨some d,op,ty,pos,after,some (j,true)⟩::l) aK G:=by obtain⟨gs,I,K⟩:=G3 H;exact zgt I K h k
def aO{j:Nat}{b:Bool}(H:Rj E.N.n ops d j G=some (tD rB b))(h:(!b)=true->cz E aK G ⟨some d,op,ty,pos,after,some (j,false)⟩ t)(k:RG E ops aJ l aK ((d,nK (!b) t)::G)):
  RG E ops aJ (⟨some d,op,ty,pos,after,some (j,false)⟩::l) aK G:=by obtain⟨gs,I,K⟩:=G3 H;exact zgf I K h k
section
variable{c:Bool}
def cN{x:α}(ti:TI E.P U sz bytes agg z)(hp:cL G p=some (nK c (bF r x)))(hs:(r.sz,r.agg)=(sz,agg))(hc:c=true):
  cz E aK G ⟨dst,.load U (.tmp p),ty,pos,after,g⟩ (tD r x):=cJ ti (yH hs).1 (yH hs).2 (bG hp hc)
def cZ{get:α->β}{x:α}{i:Nat}(hf:dl E.P ak i=some (off,sz))(hq:qZ r off q get)(hp:cL G p=some (bF r x))(h0:(!(Nat.beq sz 0)&&Nat.ble (off+q.sz) r.sz)=true)(_:c=true):cz E aK G ⟨dst,.fieldAddr ak (.tmp p) i,ty,pos,after,g⟩ (bF q (get x)):=ic hf hq hp h0
def cG(V:cL G x=some t)(_:c=true):cz E aK G ⟨dst,.move (.tmp x),ty,pos,after,g⟩ t:=gL V
def mJ(V:cL G x=some (nK c t))(hc:c=true):cz E aK G ⟨dst,.move (.tmp x),ty,pos,after,g⟩ t:=cv (bG V hc)
def jJ(hu:E.P.underlying st=some (.slice e))(V:cL G x=some (nK c (tD (f9 r) xs)))(hc:c=true):
  cz E aK G ⟨dst,.call ⟨.builtin .len,#[.tmp x],#[st]⟩,ty,pos,after,g⟩ (tD (rI .i64) (xs.length:Int)):=kZ hu (bG V hc)
def nI{b:Bool}(V:cL G x=some (nK c (tD rB b)))(hc:c=true):cz E aK G ⟨dst,.unOp .not xt (.tmp x),ty,pos,after,g⟩ (tD rB (!b)):=dY (bG V hc)
end
def aC(h:ww E.N.n d (cL G x)=some t)(k:CG E aJ y aK ((d,t)::G)):RG E ops (Exit.then (y.wpIn (fw E.r) 0 E.P aJ) aJ) [⟨some d,.assign (.tmp x),ty,pos,after,none⟩] aK G:=dC h (bB k)
def cK(h:AT E aJ .ret aK G):RG E ops (Exit.then (Code.ret.wpIn (fw E.r) 0 E.P aJ) aJ) [] aK G:=bB (fD h)
def aM(h:ww E.N.n d (cL G x)=some t)(k:AT E aJ .ret aK ((d,t)::G)):RG E ops (Exit.then (Code.ret.wpIn (fw E.r) 0 E.P aJ) aJ) [⟨some d,.assign (.tmp x),ty,pos,after,none⟩] aK G:=dC h (cK k)
def aE{id:Nat}{z:Code}(h:RG E l.toArray (Exit.then (y.wpIn (fw E.r) 0 E.P (Exit.then (z.wpIn (fw E.r) 0 E.P aJ) aJ)) (Exit.then (z.wpIn (fw E.r) 0 E.P aJ) aJ)) l aK G):CG E aJ (.seq (.seq (.region id l.toArray false) y) z) aK G:=aA (Z h)
def ax{id:Nat}(h:ww E.N.n d (cL G x)=some t)(k:RG E ((⟨some d,.move (.tmp x),ty,pos,after,none⟩::l).toArray) (Exit.then (y.wpIn (fw E.r) 0 E.P aJ) aJ) l aK ((d,t)::G)):
  CG E aJ (.seq (.region id (⟨some d,.move (.tmp x),ty,pos,after,none⟩::l).toArray false) y) aK G:=Z (Q h k)
def bS{α β:Type _}{a:Option α}{f:α->Option β}{R:β}{xs:List Operand}{u:α->Ty}(h:a.bind f=some R)(hc:aj E.P fid=true)(hs: ∀{y},a=some y->bY E.P fid ts (u y))(V:kp E.N G xs ts)(k: ∀y,f y=some R->RG E ops aJ l aK ((d,u y)::G))(hd:Nat.blt d E.N.n=true:=by exact rfl):RG E ops aJ (⟨some d,.call ⟨.value (.func fid),xs.toArray,ats⟩,ty,pos,after,none⟩::l) aK G:=
 ci h fun y hy h=>ru (bo hc (hs hy) V) hd (k y h)
def lI{α β:Type _}{γ:Type}{a:Option α}{f:α->Option β}{R:β}{r:Rp γ}{zs:α->List γ}{xs:List Operand}(h:a.bind f=some R)(hc:aj E.P fid=true)(hs: ∀{y},a=some y->fR E.P fid ts false r ak (zs y))(V:kp E.N G xs ts)(k: ∀y,f y=some R-> ∀b cap,RG E ops aJ l (ff r ak b cap (zs y)::aK) ((d,tV (bw b cap (zs y).length))::G))(hd:Nat.blt d E.N.n=true:=by exact rfl):
  RG E ops aJ (⟨some d,.call ⟨.value (.func fid),xs.toArray,ats⟩,ty,pos,after,none⟩::l) aK G:=ci h fun y hy h=>WJ hc (hs hy) V hd (k y h)
def dR{e:α}{i a d2 id:Nat}(V:xs.drop i=e::tl)(hN:xs.length<=maxLen)(h:ww E.N.n d (cL G a)=some (tD (rI .i64) (i:Int)))(k:AT E aJ .normal aK ((d2,tD (rI .i64) ((i+1:Nat):Int))::(d,tD (rI .i64) ((i+1:Nat):Int))::G))(K:ww E.N.n d2 (cL ((d,tD (rI .i64) ((i+1:Nat):Int))::G) b)=some (tD (rI .i64) ((i+1:Nat):Int)):=by exact rfl):
  AT E (Exit.inBlock id (Exit.then ((Code.region id' [⟨some d,.binOp .add xt (.tmp a) (.const (.int .i64 1)) yt,ty,pos,after,none⟩,⟨some d2,.move (.tmp b),ty2,pos2,after2,none⟩].toArray false).wpIn (fw E.r) 0 E.P aJ) aJ)) .normal aK G:=
 ay<|ap<|au<|zo (dG h).1 (zin (KF V hN) (dG h).2)<|Q K<|aY k
def lH{e:α}{i a b2 d2 d3 id:Nat}{ty3:TypeId}{pos3:String}{after3:Array Edge}(V:xs.drop i=e::tl)(hN:xs.length<=maxLen)(h:ww E.N.n d (cL G a)=some (tD (rI .i64) (i:Int)))(k:AT E aJ .normal aK ((d3,tD (rI .i64) ((i+1:Nat):Int))::(d2,tD (rI .i64) ((i+1:Nat):Int))::(d,tD (rI .i64) (i:Int))::G))(I:ww E.N.n d2 (cL ((d,tD (rI .i64) (i:Int))::G) b)=some (tD (rI .i64) (i:Int)):=by exact rfl)(K:ww E.N.n d3 (cL ((d2,tD (rI .i64) ((i+1:Nat):Int))::(d,tD (rI .i64) (i:Int))::G) b2)=some (tD (rI .i64) ((i+1:Nat):Int)):=by exact rfl):
  AT E (Exit.inBlock id (Exit.then ((Code.region id' [⟨some d,.move (.tmp a),ty,pos,after,none⟩,⟨some d2,.binOp .add xt (.tmp b) (.const (.int .i64 1)) yt,ty2,pos2,after2,none⟩,⟨some d3,.assign (.tmp b2),ty3,pos3,after3,none⟩].toArray false).wpIn (fw E.r) 0 E.P aJ) aJ)) .normal aK G:=
 ay<|ap<|au<|Q h<|zo (dG I).1 (zin (KF V hN) (dG I).2)<|dC K<|aY k
section
variable{e:α}{i a q1 q2 c d2 d3 d4 id:Nat}{ty3 ty4 u:TypeId}{pos3 pos4:String}{after3 after4:Array Edge}{z w:Code}
def Z3(i:Nat)(r:Rp α)(xs:List α)(d d2 d3 d4:Nat)(G:nt):nt:=(d4,tD rB (decide ((i:Int)<(xs.length:Int))))::(d3,tD (rI .i64) (xs.length:Int))::(d2,tD (f9 r) xs)::(d,tD (rI .i64) (i:Int))::G
def pW(hu:E.P.underlying st=some (.slice u))(V:xs.drop i=[])(h:(ww E.N.n d (cL G a),ww E.N.n d2 (cL ((d,tD (rI .i64) (i:Int))::G) b))=(some (tD (rI .i64) (i:Int)),some (tD (f9 r) xs)))
    (k:AT E aJ .normal aK ((d4,tD rB (decide ((i:Int)<(xs.length:Int))))::(d3,tD (rI .i64) (xs.length:Int))::(d2,tD (f9 r) xs)::(d,tD (rI .i64) (i:Int))::G))
    (M:(ww E.N.n d3 (cL ((d2,tD (f9 r) xs)::(d,tD (rI .i64) (i:Int))::G) p),ww E.N.n d4 (cL ((d3,tD (rI .i64) (xs.length:Int))::(d2,tD (f9 r) xs)::(d,tD (rI .i64) (i:Int))::G) q1),
      cL ((d3,tD (rI .i64) (xs.length:Int))::(d2,tD (f9 r) xs)::(d,tD (rI .i64) (i:Int))::G) q2,cL (Z3 i r xs d d2 d3 d4 G) c)=(some (tD (f9 r) xs),some (tD (rI .i64) (i:Int)),some (tD (rI .i64) (xs.length:Int)),some (tD rB (decide ((i:Int)<(xs.length:Int))))):=by exact rfl):
    LG E (Exit.inBlock id aJ) (.seq (.seq (.region id' [⟨some d,.move (.tmp a),ty,pos,after,none⟩,⟨some d2,.move (.tmp b),ty2,pos2,after2,none⟩,⟨some d3,.call ⟨.builtin .len,#[.tmp p],#[st]⟩,ty3,pos3,after3,none⟩,⟨some d4,.binOp .lss xt (.tmp q1) (.tmp q2) yt,ty4,pos4,after4,none⟩].toArray false) (.cond (.tmp c) z (.exit id))) w) aK G:=
  have h' :=yH h;have e1:=yH M;have e2:=yH e1.2;have e3:=yH e2.2
  cU<|aA<|Z<|Q h'.1<|Q h'.2<|ck hu e1.1<|zo (dG e2.1).1 (zlt (dG e2.1).2 e3.1)<|bB<|pr (Y e3.2) (KG V)<|d7<|aH (aH (cF k))
def pV(hu:E.P.underlying st=some (.slice u))(V:xs.drop i=e::tl)(h:(ww E.N.n d (cL G a),ww E.N.n d2 (cL ((d,tD (rI .i64) (i:Int))::G) b))=(some (tD (rI .i64) (i:Int)),some (tD (f9 r) xs)))
    (k:CG E (Exit.then (AM E.r E.P (.seq (.seq (.region id' [⟨some d,.move (.tmp a),ty,pos,after,none⟩,⟨some d2,.move (.tmp b),ty2,pos2,after2,none⟩,⟨some d3,.call ⟨.builtin .len,#[.tmp p],#[st]⟩,ty3,pos3,after3,none⟩,⟨some d4,.binOp .lss xt (.tmp q1) (.tmp q2) yt,ty4,pos4,after4,none⟩].toArray false) (.cond (.tmp c) .skip z)) w) aJ) aJ) w aK
      ((d4,tD rB (decide ((i:Int)<(xs.length:Int))))::(d3,tD (rI .i64) (xs.length:Int))::(d2,tD (f9 r) xs)::(d,tD (rI .i64) (i:Int))::G))
    (M:(ww E.N.n d3 (cL ((d2,tD (f9 r) xs)::(d,tD (rI .i64) (i:Int))::G) p),ww E.N.n d4 (cL ((d3,tD (rI .i64) (xs.length:Int))::(d2,tD (f9 r) xs)::(d,tD (rI .i64) (i:Int))::G) q1),
      cL ((d3,tD (rI .i64) (xs.length:Int))::(d2,tD (f9 r) xs)::(d,tD (rI .i64) (i:Int))::G) q2,cL (Z3 i r xs d d2 d3 d4 G) c)=(some (tD (f9 r) xs),some (tD (rI .i64) (i:Int)),some (tD (rI .i64) (xs.length:Int)),some (tD rB (decide ((i:Int)<(xs.length:Int))))):=by exact rfl):
    LG E aJ (.seq (.seq (.region id' [⟨some d,.move (.tmp a),ty,pos,after,none⟩,⟨some d2,.move (.tmp b),ty2,pos2,after2,none⟩,⟨some d3,.call ⟨.builtin .len,#[.tmp p],#[st]⟩,ty3,pos3,after3,none⟩,⟨some d4,.binOp .lss xt (.tmp q1) (.tmp q2) yt,ty4,pos4,after4,none⟩].toArray false) (.cond (.tmp c) .skip z)) w) aK G:=
  have h' :=yH h;have e1:=yH M;have e2:=yH e1.2;have e3:=yH e2.2
  cU<|aA<|Z<|Q h'.1<|Q h'.2<|ck hu e1.1<|zo (dG e2.1).1 (zlt (dG e2.1).2 e3.1)<|bB<|pq (Y e3.2) (Iy V)<|dZ k
end
end
section
variable{l:List Oper}
def dO(r:Rp α)(k:RG E ops aJ l aK ((d,tD (f9 r) [])::G))(hd:Nat.blt d E.N.n=true:=by exact rfl):RG E ops aJ (⟨some d,.assign (.const (.slice none 0 0)),ty,pos,after,none⟩::l) aK G:=zo hd (bp zh) k
def bE{β:Type _}{X ht:Option β}{r:β}{c:Nat}{x:Code}{b:Bool}(h:(if b=true then X else ht)=some r)(M:cL G c=some (tD rB b))(V:X=some r->CG E aJ x aK G)(hy:ht=some r->CG E aJ y aK G):
  RG E ops (Exit.then ((Code.cond (.tmp c) x y).wpIn (fw E.r) 0 E.P aJ) aJ) [] aK G:=bB (gp h M V hy)
def bT{id:Nat}{h2:Act->World->Prop}(h:AT E aJ .ret aK G):AT E (Exit.inBlock id (Exit.then h2 aJ)) .ret aK G:=lq (af h)
def cd{n:Int}(k:AT E aJ .ret aK ((d,tD (rI j) n)::G))(hd:Nat.blt d E.N.n=true:=by exact rfl):RG E ops (Exit.then (Code.ret.wpIn (fw E.r) 0 E.P aJ) aJ) [⟨some d,.assign (.const (.int j n)),ty,pos,after,none⟩] aK G:=zo hd Z2 (cK k)
def co{t:Ty}(hf:P.funcs[f]? =some fn)(M:(fn.body,fn.ntmps,Nat.ble ts.length fn.ntmps)=(some c,N,true))(h: ∀{w0 S0},CG ⟨P,⟨N,[]⟩,s0,w0,S0,none⟩ (bodyPost P fn (MI ⟨P,⟨N,[]⟩,s0,w0,S0,none⟩ t)) c [] (vh 0 ts)):bY P f ts t:=by
 obtain⟨I,K⟩:=yH M
 obtain⟨K,h3⟩:=yH K
 subst K
 exact bY.of hf I rfl h3 fun _ _=>h
section
variable{i:Nat}
def ac1{G:nt}{k:Nat}{t:Ty}:cL ((k,t)::G) k=some t:=by simp [cL]
def dc(h:ts[i]? =some u)(hu:cL G x=some u)(M:([(⟨x,u,none⟩:Nd)].all (va l ⟨dst,.move (.tmp x),ty,pos,after,g⟩ i)&&jq i ⟨dst,.move (.tmp x),ty,pos,after,g⟩&&g.isNone)=true:=by exact rfl):
  ∃(needs:List Nd) (t:Ty),ts[i]? =some t/\zO G ts needs/\(needs.all (va l ⟨dst,.move (.tmp x),ty,pos,after,g⟩ i))=true/\jq i ⟨dst,.move (.tmp x),ty,pos,after,g⟩=true/\bL E aK l.toArray (m5 needs) ⟨dst,.move (.tmp x),ty,pos,after,g⟩ t:=
 jH x h hu (gL ac1) M
def dh{v:α}(j:Nat)(ti:TI E.P U sz bytes agg z)(h:ts[i]? =some (tD r v))(hu:ts[j]? =some (bF r v))(hs:(r.sz,r.agg)=(sz,agg):=by exact rfl)(M:([(⟨x,bF r v,some j⟩:Nd)].all (va l ⟨dst,.load U (.tmp x),ty,pos,after,g⟩ i)&&jq i ⟨dst,.load U (.tmp x),ty,pos,after,g⟩&&g.isNone)=true:=by exact rfl):
  ∃(needs:List Nd) (t:Ty),ts[i]? =some t/\zO G ts needs/\(needs.all (va l ⟨dst,.load U (.tmp x),ty,pos,after,g⟩ i))=true/\jq i ⟨dst,.load U (.tmp x),ty,pos,after,g⟩=true/\bL E aK l.toArray (m5 needs) ⟨dst,.load U (.tmp x),ty,pos,after,g⟩ t:=
 cT x j h hu (nE ti ac1 hs) M
end
end

def adj(n:Nd):NS:=⟨n.slot,fun _=>n.ty,n.src⟩
def O4(n:Nat):Ea (List.replicate n false)=[]:=by
 unfold Ea
 refine Rg.2 fun k hk=>?_
 rw [List.getElem?_replicate];split<;>simp
def tcs{E:En}{aK:List OE}{G:nt}{L:List Oper}{ts:List Ty}{n:Nat}: ∀(r:List Oper) (k:Nat),(∀o∈r,o.dst.isSome=true)->DR E aK G L ts k r->DT E G L (ts.map tc) [([],fun _=>aK)] (List.replicate n false) k r (List.replicate r.length false)
 |[],_,_,_=>trivial
 |o::r,k,hd,⟨⟨needs,t,I,K,h3,h4,h5⟩,h⟩=>by
  refine⟨⟨needs.map adj,tc t,[[]],by simp [I],?_,by rw [List.all_map];exact h3,h4,rfl,?_,hd o (.head _),⟨fun σ=>?_,trivial⟩⟩,tcs r (k+1) (fun o ho=>hd o (.tail _ ho)) h⟩
  ·clear h3 h5
   induction needs with
   |nil=>trivial
   |cons n l ih=>
    refine⟨?_,ih K.2⟩
    have:=K.1
    unfold BX at this
    unfold ZU
    show match n.src with|some j=>_|none=>_
    split<;>rename_i hs<;>rw [hs]at this
    ·exact fun σ=>by simp [this];rfl
    ·exact fun σ=>this
  ·unfold PL;rw [O4];simp [Hb,eqL]
  ·have:FR (needs.map adj) σ=m5 needs:=by unfold FR;rw [List.map_map];exact congrArg m5 ((JM fun _ _=>rfl).trans (List.map_id _))
   rw [this];exact h5
def NF{N:Nat}: ∀(l:List Oper) (seen:List Nat),He N seen l=true->As N seen l=true/\ ∀o∈l,o.dst.isSome=true
 |[],_,_=>⟨rfl,fun _ h=>by cases h⟩
 |o::r,seen,h=>by
  unfold He at h
  unfold As
  cases hd:o.dst with
  |none=>rw [hd]at h;cases h
  |some d=>
   rw [hd]at h
   simp only [gN]at h ⊢
   obtain⟨I,K⟩:=NF r _ h.2
   exact⟨⟨h.1,I⟩,fun p hp=>by cases hp with|head=>rw [hd];rfl|tail _ hp=>exact K p hp⟩
def aac{G:nt}: ∀(l:List Oper) (ts:List Ty),(∀o∈l,o.dst.isSome=true)->Js l ts G=Qp l ts G
 |[],_,_=>by unfold Js Qp;rfl
 |o::l,[],_=>by unfold Js Qp;rfl
 |o::l,t::ts,h=>by
  unfold Js Qp ad4
  rw [aac l ts fun o ho=>h o (.tail _ ho)]
  have:=h o (.head _)
  cases hd:o.dst with
  |none=>rw [hd]at this;cases this
  |some d=>rfl
def BN{id:Nat}(m:Nat)(hm:E.P.follows .mixedOrders=true)(hsl:He E.N.n [] (L.take m)=true)(hlen:ts.length=(L.take m).length)(Y:Rn L (L.take m).length (L.drop m).length=true)(hd:DR E aK G L ts 0 (L.take m))(k:RG E L.toArray aJ (L.drop m) aK (Qp (L.take m) ts G)):CG E aJ (.region id L.toArray true) aK G:=by
 obtain⟨h0,hs⟩:=NF _ _ hsl
 refine lS m (ts.map tc) (List.replicate (L.take m).length false) [([],fun _=>aK)] (fun _=>rfl) hm h0 (by simpa using hlen) (by simp) Y (tcs _ 0 hs hd) fun σ=>?_
 have:tsS (ts.map tc) σ=ts:=by unfold tsS;rw [List.map_map];exact(JM fun _ _=>rfl).trans (List.map_id _)
 rw [O4,this,aac _ _ hs];exact k
def iQ{id:Nat}{l:List Oper}(hm:E.P.follows .mixedOrders=true)(hsl:He E.N.n [] l=true)(hlen:ts.length=l.length)(hd:DR E aK G l ts 0 l)(k:AT E aJ .normal aK (Qp l ts G)):
  CG E aJ (.region id l.toArray true) aK G:=by
 have e:l.take l.length=l:=Dg
 have e' :l.drop l.length=[]:=List.drop_length
 exact BN l.length hm (by rw [e];exact hsl) (by rw [e];exact hlen) (by rw [e'];rfl) (by rw [e];exact hd) (by rw [e,e'];exact aY k)

open Go.Sort Go.Shelf

def DZ{os:Array Obj}{k:Nat}(h:k<w.heap.size):(grow w os).heap[k]? =w.heap[k]? :=by
 unfold grow;exact Array.getElem?_append_left h
def OL [Inhabited α]{enc:α->Value}{d:Array α}{k:Nat}(h:k≠b):(putRow enc w b off d).heap[k]? =w.heap[k]? :=by
 unfold putRow mapBlock
 rw [Array.getElem?_modify,aS (Ne.symm h)]
def s9 [Inhabited α]{enc:α->Value}{m:Nat}{d:Array α}{os:Array Obj}{k:Nat}(hk:k<w.heap.size)(h:k≠b):(sortWorld enc w b off m d os).heap[k]? =w.heap[k]? :=by
 unfold sortWorld
 rw [DZ (by rw [size_putRow];exact hk),OL h];rfl
def DY [Inhabited α]{enc:α->Value}{m:Nat}{d:Array α}{os:Array Obj}{c:Array Value}{fr:Nat×Nat}(h:w.heap[b]? =some (.cells c ak fr)):
  (sortWorld enc w b off m d os).heap[b]? =some (.cells (putCells enc off d c) ak fr):=by
 have hlt:=(yL.1 h).1
 unfold sortWorld
 rw [DZ (by rw [size_putRow];exact hlt)]
 unfold putRow mapBlock
 rw [Array.getElem?_modify,br rfl]
 show Option.map _ (w.heap[b]?)=_
 rw [h];rfl
def Cj [Inhabited α]{enc:α->Value}{d:Array α}{c:Array Value}(h:d.size<=c.size):(putCells enc 0 d c).toList.take d.size=d.toList.map enc:=by
 apply Nf
 intro k
 by_cases hk:k<d.size
 ·rw [EG hk]
  have hc:k<c.size:=by omega
  simp [putCells,hc,hk]
 ·rw [GW (by simp;omega),GW (by simp;omega)]
section
def rt{m:Nat}{l:Option Nat}(hl:m=n)(s:Nat)(hs:cL G s=some (tV (bw l cap n)))(k:RG E ops aJ rest aK ((s,tV (bw l cap m))::G)):RG E ops aJ rest aK G:=by
 subst hl
 exact fun a w S st=>k a w S ⟨st.ext,st.sat,st.own,⟨st.facts.size,st.facts.defers,fun j t h=>by
  unfold cL at h
  by_cases M:Nat.beq s j=true
  ·rw [M]at h
   have:=wQ M
   subst this
   have e:tV (bw l cap m)=t:=by simpa using h
   rw [<-e];exact st.facts.at_ s _ hs
  ·rw [Gb]at M
   rw [M]at h
   exact st.facts.at_ j t h⟩⟩
end
end Go.Proofs.YtpgjgkdpeagjbaaGreatDoor

