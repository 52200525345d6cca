import Derived.Test.YtaehdhmbgmbgiaaGreatDoorKkV2
import Derived.Lib.Bytealg
import Derived.Maps.Range
import Derived.Laws.IdiomRangeMap
import Derived.Test.YtaehdhmbgmbgiaaGreatDoorKkV1
import Derived.Laws.BytesString
import Derived.Below
import Derived.ProofKit
import Derived.OpenShut
import Derived.LaidMore
import Derived.Laws.Externs
set_option linter.all false
namespace Go.Proofs.YtaehdhmbgmbgiaaGreatDoor
open Go
variable{E:En}{G:pC}{O O' :List OE}{S S' :SH}{β:Type}{a:Act}{f:FuncId}{k:IntKind}{κ:Type}{m:List (κ×β)}{o:Oper}{post:OI->List OE}{t:TypeId}{v:Value}{w:World}{x:Nat}
def EffOK.perm{t:OI->Ty}(h:EffOK E O' G o post t)(k: ∀{w S},dW E.base E.B w S O->dW E.base E.B w S O')(m: ∀f∈O',f∈O):EffOK E O G o post t:=fun a w S hs ho hf H=>
 s9 (fun _ _ ⟨v,S',x,I,M,h3,h4,h5⟩=>⟨v,S',x,I,M.more fun _ ⟨f,hf,hk⟩=>⟨f,m f hf,hk⟩,h3,h4,h5⟩) (h a w S hs (k ho) hf H)
variable{x0 x1 x2 x3 x4:OE}
namespace EffOK
section
variable{t:OI->Ty}
def fr1(h:EffOK E (x1::x0::O) G o post t):EffOK E (x0::x1::O) G o post t:=h.perm (fun hw=>dW.swap hw) (fun f hf=>by simp only [iW]at hf ⊢;rcases hf with h|h|h<;>simp [h])
def fr2(h:EffOK E (x2::x0::x1::O) G o post t):EffOK E (x0::x1::x2::O) G o post t:=h.perm (fun hw=>zm hw) (fun f hf=>by simp only [iW]at hf ⊢;rcases hf with h|h|h|h<;>simp [h])
def fr3(h:EffOK E (x3::x0::x1::x2::O) G o post t):EffOK E (x0::x1::x2::x3::O) G o post t:=h.perm (fun hw=>zl hw) (fun f hf=>by simp only [iW]at hf ⊢;rcases hf with h|h|h|h|h<;>simp [h])
def fr4(h:EffOK E (x4::x0::x1::x2::x3::O) G o post t):EffOK E (x0::x1::x2::x3::x4::O) G o post t:=h.perm (fun hw=>zk hw) (fun f hf=>by simp only [iW]at hf ⊢;rcases hf with h|h|h|h|h|h<;>simp [h])
def fr6{x5 x6:OE}(h:EffOK E (x6::x0::x1::x2::x3::x4::x5::O) G o post t):EffOK E (x0::x1::x2::x3::x4::x5::x6::O) G o post t:=h.perm (fun hw=>zj hw) (fun f hf=>by simp only [iW]at hf ⊢;rcases hf with h|h|h|h|h|h|h|h<;>simp [h])
def fr7{x5 x6 x7:OE}(h:EffOK E (x7::x0::x1::x2::x3::x4::x5::x6::O) G o post t):EffOK E (x0::x1::x2::x3::x4::x5::x6::x7::O) G o post t:=h.perm (fun hw=>zi hw) (fun f hf=>by simp only [iW]at hf ⊢;rcases hf with h|h|h|h|h|h|h|h|h<;>simp [h])
def post_imp{post' :OI->List OE}(h:EffOK E O G o post t)(k: ∀{w S x},dW E.base E.B w S (post x)->dW E.base E.B w S (post' x)):EffOK E O G o post' t:=fun a w S hs ho hf H=>
 s9 (fun _ _ ⟨v,S',x,I,M,h3,h4,h5⟩=>⟨v,S',x,I,M,h3,k h4,h5⟩) (h a w S hs ho hf H)
end
end EffOK
variable{N:Nat}{tD:Exit->Act->World->Prop}{aj U:TypeId}{after:Array Edge}{agg:Bool}{α:Type}{ats:Array TypeId}{b bytes:Nat}{c:Code}{cap:Nat}{cells:List Value}{d:Nat}{dst:Option Tmp}{e:TypeId}{g:Option (Nat×Bool)}{j:IntKind}{mm:Bool}{n off:Nat}{ok:α->Prop}{ops:Array Oper}{p:Nat}{pos:String}{q:Rp β}{r:Rp α}{rest:List Oper}{sz:Nat}{ts:List Ty}{ty:TypeId}{u:Ty}{xs:List α}{y:Code}{ys:List α}{z:List Value}{zs:List α}
section
def Vc{y v:α}{i:Int}{p x:Operand}(ti:TI E.P U sz bytes agg z)(hsz:r.sz=sz)(hy:cO xs i=some y)(hz:xs.set i.toNat v=zs)(hp:be E.N G p (tV (aE b (i.toNat*r.sz))))(hv:be E.N G x (Q r v)):EffOK E (bx (tE r n) aj b xs::O) G ⟨none,.store U p x,ty,pos,after,g⟩ (fun _=>bx (tE r n) aj b zs::O) (fun _=>Bf):=Mp (fun _ h=>(by cases h)) fun a w S hsat hown hf hbase=>by
 subst hz;have I:a.eval p=aE b (i.toNat*r.sz):=hp S a hf;obtain⟨ds,M,h3⟩:=hv S a hf;obtain⟨⟨hno,cur,h5,h6⟩,_⟩:=hown.1;obtain⟨h0,hy'⟩:=m7 hy;have hlt:i.toNat<xs.length:=(qS.1 hy').1;have hl:=s7 h6.2;simp only [Iv]at hl;have hmul:i.toNat*r.sz+r.sz<=xs.length*r.sz:=by rw [<-Nat.succ_mul];exact FR _ hlt
 obtain⟨w',hr,e1,e2,e3,e4,e5,e6⟩:=nq ti hsz h3 h5 (off:=i.toNat*r.sz) (by omega);have hrun:(execOp a.eval ⟨none,.store U p x,ty,pos,after,g⟩).run E.P w= .ok .skip w' :=by
  simp [execOp,I,M,Instr.storeAt,aE,Instr.sureAddr,hr]
 obtain⟨g1,g2,g3⟩:=uK (O:=O) hsat (bx (tE r n) aj b xs) (bx (tE r n) aj b (xs.set i.toNat v)) hown (fun _=>Ap) (fun _=>Ap) ⟨e1,e2,e3,e4.1,e4.2⟩ e6 ⟨hno,_,e5,by rw [NQ];exact h6.1,Gs h3 h6.2 hlt⟩ hno;exact⟨w',S,tA,hrun,g1.more fun c hc=>⟨_,md ..,hc⟩,g2,g3⟩
section
def kQ{x:α}(ti:TI E.P aj sz bytes agg z)(V: ∀S,r.rc S z x):
  EffOK E O G ⟨some d,.alloc aj,ty,pos,after,g⟩ (fun i=>bx r aj (i.h 0).2 x::O) (fun i=>tV (aE (i.h 0).2 0)):=fun a w S hs ho hf H=>by
 obtain⟨zv,hzr,hzc⟩:=ti.zero w;obtain⟨he,hs',hno⟩:=jy (w:=w) (.cells z.toArray aj (0,0)) hs;have hrun:(execOp a.eval ⟨some d,.alloc aj,ty,pos,after,g⟩).run E.P w= .ok (.value (aE w.heap.size 0)) (w.alloc (.cells z.toArray aj (0,0))):=by
  simp [execOp,Instr.alloc,hzr,newVar,newRow,hzc,aE]
 refine⟨fun c h=>(by cases h),?_⟩;rw [hrun];exact⟨_,S,oi none w.heap.size,rfl,he.more fun _ H=>H.elim,hs',vy ho he (e:=bx r aj w.heap.size x) ⟨hno,z.toArray,Ck w _,by simpa using V S⟩ (fun b H=>FU H.symm) H,rfl⟩
def DM{xs:List Operand}(hc:ak E.P f=true)(hs:fE E.P f ts false r aj ys)(V:lI E.N G xs ts):
  EffOK E O G ⟨some d,.call ⟨.value (.func f),xs.toArray,ats⟩,ty,pos,after,g⟩ (fun i=>eV r aj (i.h 0).1 (i.h 0).2 ys::O) (fun i=>tV (aY (i.h 0).1 (i.h 0).2 ys.length)):=YD (mm:=false) hc hs V (fun _ _ _ _ _=>rfl)
end
section
def dx{l:Option Nat}{o i:Nat}{y:α}{j:Int}{p:Operand}(hf:dv E.P aj i=some (off,sz))(h0:Nat.beq sz 0=false)(hm:pw mm r U l cap xs∈O)(hy:cO xs j=some y)(hp:be E.N G p (tV (nc l o)))(he:o+off=n):
  cu E O G ⟨dst,.fieldAddr aj p i,ty,pos,after,g⟩ (tV (nc l n)):=by
 subst he;exact Nw hf h0 hm hy hp
def eK{x:Operand}(V:be E.N G x (tV (aE b off))):cu E O G ⟨dst,.nilCheck x,ty,pos,after,g⟩ (tV (aE b off)):= .of_pure fun a w S _ _ hf=>by
 have I:a.eval x=aE b off:=V S a hf;exact⟨aE b off,by simp [execOp,I,aE],rfl⟩
def PU{y:α}{x:Operand}(V:be E.N G x (bH r y)):cu E O G ⟨dst,.nilCheck x,ty,pos,after,g⟩ (bH r y):= .of_pure fun a w S _ _ hf=>by
 have h0:=V S a hf;obtain⟨b,off,c,U,fr,I,M,h3⟩:=h0;exact⟨_,by simp [execOp,I],b,off,c,U,fr,rfl,M,h3⟩
def yY{p:Operand}{u:Value}(ti:TI E.P U 1 bytes false z)(hm:bx rV aj b u∈O)(hp:be E.N G p (tV (aE b 0))):
  cu E O G ⟨dst,.load U p,ty,pos,after,g⟩ (tV u):=(bP (q:=rV) (get:=fun x=>x) ti rfl rfl bT hm hp).imp fun _ _ h=>(xN.1 h).1
def nK{t:Ty}{p:Operand}(ti:TI E.P U 1 bytes false z)(hp:be E.N G p (bH (rT t) ())):cu E O G ⟨dst,.load U p,ty,pos,after,g⟩ t:=yZ ti hp
end
def t8(h:O=O')(k:RG E ops tD rest O' G):RG E ops tD rest O G:=by subst h;exact k
def abQ{e:Exit}(h:O=O')(k:AT E tD e O' G):AT E tD e O G:=by subst h;exact k
def hW{N:Fr}{x:Operand}{u:Value}(h:be N G x (tV u))(ho:u.oneCell' =true):be N G x (Q rV u):=fun S a hf=>xN.2 ⟨h S a hf,ho⟩
def hTT{N:Fr}{x:Operand}{t:Ty}(I: ∀S v,t.p S v->v.oneCell' =true)(h:be N G x t):be N G x (Q (rT t) ()):=fun S a hf=>tRT.2 ⟨I _ _ (h S a hf),h S a hf⟩
end
variable{P:Program}{lo:Int}
def RA{l:Option Nat}{t' e' :TypeId}(J:P.underlying t' =some (.slice e'))(h:H9 mm r U l cap xs w S)(hs:df xs lo (xs.length:Int)=some ys):
  ∃news,Src P r.sz t' (sY r.sz l cap lo.toNat ys.length) ys.length news w/\xX r S news ys:=by
 obtain⟨cells,I,M,_⟩:=h;obtain⟨lo',m,rfl,hm,h3,h4,rfl⟩:=jp hs;have hm' :m=xs.length:=by omega
 subst hm';rw [DZ,zn]
 cases l with
 |none=>
  have V:xs=[]:=Ao I.1;subst V;exact⟨[],by simpa [sY] using Src.ofNil w J 0,by simp [xX]⟩
 |some b=>
  obtain⟨cur,g1,g2,g3,g4,g5⟩:=I;have hlen:(xs.drop lo').length=xs.length-lo' :=by simp
  have hcl:=s7 M;have hsp:xs=xs.take lo' ++xs.drop lo' :=(A8 lo' xs).symm;have htl:(xs.take lo').length=lo' :=by simp;omega
  have hr:xX r S (cells.drop (lo' *r.sz)) (xs.drop lo'):=by
   rw [hsp]at M;have:=(wn M).2
   rwa [htl]at this
  have hmul:lo' *r.sz<=xs.length*r.sz:=FR _ h3;refine⟨cells.drop (lo' *r.sz),?_,hr⟩;unfold sY;refine Src.ofSlice w J _ _ _ _ (s7 hr) (fun j u hu=>?_) (JO hr);by_cases hc:cap=lo'
  ·have:xs.drop lo' =[]:=Hi (by omega);rw [this]at hr;have hr' :cells.drop (lo' *r.sz)=[]:=hr;rw [hr']at hu;simp at hu
  ·simp only [hc,gT];rw [nf,G2 g1];rw [A7,<-g5]at hu;have hj:lo' *r.sz+j<xs.length*r.sz:=by
    have:=(qS.1 hu).1;simp at this;omega
   rw [D1 hj]at hu;simpa using hu
variable{st yt:TypeId}
section
def If{l:Option Nat}{x:Operand}(J:E.P.underlying t=some (.slice e))(hm:pw mm r U l cap xs∈O)(hs:df xs lo (xs.length:Int)=some ys)(V:be E.N G x (tV (sY r.sz l cap lo.toNat ys.length)))(hd:Nat.blt d E.N.n=true)(k: ∀b,(b=true->ys=[])->RG E ops tD rest O ((d,Q rB b)::G)):RG E ops tD (⟨some d,.binOp .eql t x (.const (.slice none 0 0)) yt,ty,pos,after,none⟩::rest) O G:= .of rfl fun a w S st=>by
 have I:a.eval x=sY r.sz l cap lo.toNat ys.length:=V S a st.facts;obtain⟨⟨cells,hraw,_⟩,_⟩:=st.own.mem _ hm;have hcn:a.eval (.const (.slice none 0 0))= .slice none 0 0:=rfl
 cases l with
 |none=>
  have hx0:xs=[]:=Ao hraw.1;have hy0:ys=[]:=by
   obtain⟨lo',m,_,_,_,_,rfl⟩:=jp hs;subst hx0;simp
  have h3:(Op.equal t (.slice none 0 0) (.slice none 0 0)).run E.P w= .ok true w:=Bh fun d=>by
   simp [Op.equalIn,oS J]
  have hrun:(execOp a.eval ⟨some d,.binOp .eql t x (.const (.slice none 0 0)) yt,ty,pos,after,none⟩).run E.P w= .ok (.value (.bool true)) w:=by
   simp [execOp,I,sY,hcn,eqGuard,binOp,h3]
  refine⟨fun c h=>(by cases h),?_⟩;rw [hrun];exact k true (fun _=>hy0) _ _ S (st.step (kh.refl _ _ _) st.sat hd (kY.2 rfl))
 |some b=>
  obtain⟨ad,hv⟩: ∃ad,sY r.sz (some b) cap lo.toNat ys.length= .slice (some ad) ys.length (cap-lo.toNat):=⟨_,rfl⟩;have h3:(Op.equal t (.slice (some ad) ys.length (cap-lo.toNat)) (.slice none 0 0)).run E.P w= .ok false w:=Bh fun d=>by
   simp [Op.equalIn,oS J]
  have hrun:(execOp a.eval ⟨some d,.binOp .eql t x (.const (.slice none 0 0)) yt,ty,pos,after,none⟩).run E.P w= .ok (.value (.bool false)) w:=by
   simp [execOp,I,hv,hcn,eqGuard,binOp,h3]
  refine⟨fun c h=>(by cases h),?_⟩;rw [hrun];exact k false (fun e=>(by cases e)) _ _ S (st.step (kh.refl _ _ _) st.sat hd (kY.2 rfl))
def FE{t' :TypeId}{l l2:Option Nat}{cap2:Nat}{us:List α}{x y:Operand}(ti:TI E.P aj sz bytes agg z)(hsz:r.sz=sz)(hz:Nat.beq z.length sz=true)(h0:Nat.blt 0 sz=true)(h128:Nat.ble bytes 2048=true)(J:E.P.underlying t=some (.slice aj))(ht' :t' =t)(hd:Nat.blt d E.N.n=true)(V:be E.N G x (tV (aY l cap n)))(hm:pw mm r U l2 cap2 us∈eV r aj l cap xs::O)(hs:df us lo (us.length:Int)=some ys)(hy:be E.N G y (tV (sY r.sz l2 cap2 lo.toNat ys.length)))(happ:app xs ys=some zs)(k: ∀l' cap',RG E ops tD rest (eV r aj l' cap' zs::O) ((d,tV (aY l' cap' zs.length))::G))(hn:n=xs.length:=by rfl):
  RG E ops tD (⟨some d,.call ⟨.builtin .append,#[x,y],#[t,t']⟩,ty,pos,after,none⟩::rest) (eV r aj l cap xs::O) G:=by
 subst ht';exact FF (u:=fun cap' l' =>tV (aY l' cap' zs.length)) ti hsz hz h0 h128 J hd V (fun a w S st=>by
  have I:a.eval y=sY r.sz l2 cap2 lo.toNat ys.length:=hy S a st.facts;rw [I];exact RA J (st.own.mem _ hm).1 hs) happ (fun _ _ _ _ _=>rfl) k hn
end
abbrev ItX(α X:Type):=(σ:Type)->(α->σ->Option (Bool×σ))->σ->Option (σ×X)
def XK(P:Program){α X:Type}(args:α->List Ty)(it:ItX α X)(Ob:X->OI->List OE)(fid:FuncId)(cap:Array Value)(fp:Nat->Prop)(w:World)(S:SH):Prop:=
 ∀(σ:Type) (y:α->σ->Option (Bool×σ)) (s:σ) (R:σ×X),it σ y s=some R-> ∀h1 yv,Yld P args y h1 yv-> ∀e,h1 s e->e.p w S->(∀k,e.fp k-> ¬fp k)->
  Calls P fid (#[yv]++cap) w fun en w' => ∃e' S' j,(∃v,en= .returned v)/\h1 R.1 e' /\kh (fun k=>e.fp k\/fp k) w S w' S' /\nC w' S' /\e'.p w' S' /\dW 0 vz w' S' (Ob R.2 j)/\(∀k,e'.fp k\/Fo (Ob R.2 j) k->(e.fp k\/fp k)\/w.heap.size<=k)/\ ∀k,e'.fp k-> ¬Fo (Ob R.2 j) k
def Qf(P:Program){α X:Type}(args:α->List Ty)(it:ItX α X)(Ob:X->OI->List OE)(v:Value)(fp:Nat->Prop):OE where
 fp:=fp
 p:=fun w S=>(∀k,fp k->k<w.heap.size)/\ ∃fid cap,v= .func (.func fid) #[] cap/\ak P fid=true/\
  ∀C w' S',kh C w S w' S' ->(∀k,fp k-> ¬C k)->nC w' S' ->XK P args it Ob fid cap fp w' S'
 here:=fun h k hk=>h.1 k hk
 kept:=by
  rintro C w w' S S' ⟨I,fid,cap,M,h3,h4⟩ k hC;refine⟨fun b H=>Ca (I b H) k.size,fid,cap,M,h3,fun C' w'' S'' k' hC' hs=>?_⟩;exact h4 (fun b=>C b\/C' b) w'' S'' ((k.more fun b H=> .inl H).trans (k'.more fun b H=> .inr H)) (fun b H h=>h.elim (hC b H) (hC' b H)) hs
def aiV:Unit->OI->List OE:=fun _ _=>[]
def itU{α:Type}(it:It α):ItX α Unit:=fun σ y s=>(it σ y s).map fun r=>(r,())
variable{X:Type}{args:α->List Ty}{fid:FuncId}{fp:Nat->Prop}{it:ItX α X}{σ:Type}
def ai3{it:It α}(h:(itr P args it v fp).p w S):(Qf P args (itU it) aiV v fp).p w S:=by
 obtain⟨I,fid,cap,M,h3,h4⟩:=h;refine⟨I,fid,cap,M,h3,fun C w' S' k hC hs σ y s R hit h1 yv hy e he hep hap=>?_⟩;unfold itU at hit
 cases hq:it σ y s with
 |none=>rw [hq]at hit;cases hit
 |some s' =>
  rw [hq]at hit;obtain rfl:(s',())=R:=by simpa using hit
  refine(h4 C w' S' k hC hs σ y s s' hq h1 yv hy e he hep hap).mono ?_;rintro en w2 ⟨e',S2,g1,g2,g3,g4,g5,g6⟩;exact⟨e',S2,tA,g1,g2,g3,g4,g5,trivial,fun k hk=>hk.elim (fun h=>(g6 k h).imp .inl id) (fun⟨_,h,_⟩=>by cases h),fun k _ ⟨_,h,_⟩=>by cases h⟩
section
variable{it:It α}
def aio(h:CG E tD c (Qf P args (itU it) aiV v fp::O) G):CG E tD c (itr P args it v fp::O) G:=fun a w S st=>h a w S (st.own_map fun⟨⟨g1,g2⟩,g3,g4⟩=>⟨⟨ai3 g1,g2⟩,g3,g4⟩)
end
def G9(P:Program)(fid:FuncId){α X:Type}(args:α->List Ty)(it:ItX α X)(Ob:X->OI->List OE)(O:List OE)(cts:List Ty):Prop:=
 ∀w S cap,nC w S->dW 0 vz w S O->B5 S cts cap->XK P args it Ob fid cap.toArray (Fo O) w S
def aa5(E:En){σ X:Type}(h1:σ->OE->Prop)(R:σ×X)(Ob:X->OI->List OE):Ending->World->Prop:=fun en w' => ∃e' S' j,(∃v,en= .returned v)/\h1 R.1 e' /\kh E.B E.w0 E.S0 w' S' /\nC w' S' /\e'.p w' S' /\dW 0 vz w' S' (Ob R.2 j)/\(∀k,e'.fp k\/Fo (Ob R.2 j) k->E.B k\/E.w0.heap.size<=k)/\ ∀k,e'.fp k-> ¬Fo (Ob R.2 j) k
variable{B:Nat->Prop}{Ob:X->OI->List OE}{S0:SH}{fn:Func}{w0:World}
def G9.of{cts:List Ty}(hf:P.funcs[f]? =some fn)(H:fn.body=some c)(hN:fn.ntmps=N)(hn:Nat.ble (cts.length+1) N=true)(h: ∀(σ:Type) (y:α->σ->Option (Bool×σ)) (s:σ) (R:σ×X),it σ y s=some R-> ∀h1 yv,Yld P args y h1 yv-> ∀e,h1 s e-> ∀w0 S0 B,(∀k,B k->e.fp k\/ ∃f∈O,f.fp k)->
   CG ⟨P,⟨N,[]⟩,B,w0,S0,none⟩ (bodyPost P fn (aa5 ⟨P,⟨N,[]⟩,B,w0,S0,none⟩ h1 R Ob)) c (e::O) (xH 0 (tV yv::cts))):G9 P f args it Ob O cts:=by
 subst hN;intro w S cap hs ho hc σ y s R hit h1 yv hy e he hep hap;have hown:dW w.heap.size (fun k=>e.fp k\/ ∃f∈O,f.fp k) w S (e::O):=
  ⟨⟨hep,fun k hk=> .inr (.inl hk)⟩,fun f hf b H hfb=>hap b H ⟨f,hf,hfb⟩,ox ho fun f hf k hk=> .inr (.inr ⟨f,hf,hk⟩)⟩
 have hfacts:=qI (S:=S) (ts:=tV yv::cts) (vs:=yv::cap) ⟨rfl,hc⟩ fn.ntmps (by simpa using ve hn);have:=ny.1 (Kk (F:=fw none) (n:=0) hf H trivial (h σ y s R hit h1 yv hy e he w S (fun k=>e.fp k\/ ∃f∈O,f.fp k) (fun _ h=>h) _ w S ⟨kh.refl _ _ _,hs,hown,hfacts⟩));rw [show(#[yv]++cap.toArray:Array Value)=(yv::cap).toArray from by simp];exact this.mono fun en w' ⟨e',S',j,I,M,h3,h4,h5,h6,h7,h8⟩=>⟨e',S',j,I,M,h3,h4,h5,h6,h7,h8⟩
def TM{h1:σ->OE->Prop}{R:σ×X}{e:OE}(hr:fn.results= #[])(he:h1 R.1 e)(j:OI)(hO:O=Ob R.2 j):
  AT ⟨P,⟨N,[]⟩,B,w0,S0,none⟩ (bodyPost P fn (aa5 ⟨P,⟨N,[]⟩,B,w0,S0,none⟩ h1 R Ob)) .ret (e::O) G:=fun _ _ S st=>by
 subst hO;refine⟨st.facts.defers,_,AA P fn hr _ _,e,S,j,⟨_,rfl⟩,he,st.ext,st.sat,st.own.1.1,st.own.2.2.weak,fun k hk=>?_,fun k hk ⟨f,hf,hfk⟩=>st.own.2.1 f hf k hk hfk⟩;rcases hk with hk|⟨f,hf,hk⟩
 ·exact(st.own.1.2 k hk).symm
 ·exact((dW.mem st.own.2.2 f hf).2 k hk).symm
def Y8{h1:σ->OE->Prop}{R:σ×X}{e:OE}(hr:fn.results= #[])(he:h1 R.1 e)(j:OI)(hO:O=Ob R.2 j):
  AT ⟨P,⟨N,[]⟩,B,w0,S0,none⟩ (bodyPost P fn (aa5 ⟨P,⟨N,[]⟩,B,w0,S0,none⟩ h1 R Ob)) .normal (e::O) G:=fun a w S st=>TM hr he j hO a w S st
def G6(P:Program)(f:FuncId)(ts:List Ty)(O1:List OE){α X:Type}(args:α->List Ty)(it:ItX α X)(Ob:X->OI->List OE):Prop:=
 ∀w S vs,nC w S->B5 S ts vs->dW 0 vz w S O1->Calls P f vs.toArray w fun e w' => ∃v fp S',e= .returned v/\kh (Fo O1) w S w' S' /\nC w' S' /\(Qf P args it Ob v fp).p w' S' /\ ∀k,fp k->Fo O1 k\/w.heap.size<=k
def aa4(E:En)(O1:List OE){α X:Type}(args:α->List Ty)(it:ItX α X)(Ob:X->OI->List OE):Ending->World->Prop:=fun e w' => ∃v fp S',e= .returned v/\kh E.B E.w0 E.S0 w' S' /\nC w' S' /\(Qf E.P args it Ob v fp).p w' S' /\ ∀k,fp k->Fo O1 k\/E.w0.heap.size<=k
variable{O1:List OE}
def G6.of(hf:P.funcs[f]? =some fn)(H:fn.body=some c)(hN:fn.ntmps=N)(hn:Nat.ble ts.length N=true)(h: ∀w0 S0,CG ⟨P,⟨N,[]⟩,Fo O1,w0,S0,none⟩ (bodyPost P fn (aa4 ⟨P,⟨N,[]⟩,Fo O1,w0,S0,none⟩ O1 args it Ob)) c O1 (xH 0 ts)):G6 P f ts O1 args it Ob:=by
 subst hN;intro w S vs hs hv ho;exact ny.1 (Kk (F:=fw none) (n:=0) hf H trivial (h w S _ w S ⟨kh.refl _ _ _,hs,ox ho fun f hf k hk=> .inr ⟨f,hf,hk⟩,qI hv _ (ve hn)⟩))
def Y7{k:Nat}(hr:fn.results= #[.tmp k])(hk:cH G k=some (tV v)):
  AT ⟨P,⟨N,[]⟩,Fo O1,w0,S0,none⟩ (bodyPost P fn (aa4 ⟨P,⟨N,[]⟩,Fo O1,w0,S0,none⟩ O1 args it Ob)) .ret (Qf P args it Ob v fp::O) G:=fun a w S st=>by
 have hv:a.tmps.getD k undef=v:=st.facts.at_ k _ hk;exact⟨st.facts.defers,_,qU P fn k hr _ _,v,fp,S,by rw [hv],st.ext,st.sat,st.own.1.1,fun k hk=>(st.own.1.2 k hk).symm⟩
variable{ι:Type}{O2:ι->List OE}
section
def Vt{xs:List Operand}(O1 Or:List OE)(hO:O=O1++Or)(hc:ak E.P f=true)(hs:G6 E.P f ts O1 args it Ob)(V:lI E.N G xs ts)(hd:Nat.blt d E.N.n=true)(k: ∀v fp,RG E ops tD rest (Qf E.P args it Ob v fp::Or) ((d,tV v)::G)):
  RG E ops tD (⟨some d,.call ⟨.value (.func f),xs.toArray,ats⟩,ty,pos,after,none⟩::rest) O G:= .of rfl fun a w S st=>by
 subst hO;have hr:(execOp a.eval ⟨some d,.call ⟨.value (.func f),xs.toArray,ats⟩,ty,pos,after,none⟩).run E.P w= .ok (.enter f (xs.map a.eval).toArray) w:=by
  simp [execOp,resolve,Act.eval,Deferred.ofValue,invoke,gC hc]
 refine⟨fun c h=>(by cases h),?_⟩;rw [hr];refine(hs w S _ st.sat (V.tys st.facts) (rn st.own).1.weak).mono fun e w' ⟨v,fp,S',he,I,M,h3,h4⟩=>⟨_,he,?_⟩;have st' :=st.turn (O2:=[Qf E.P args it Ob v fp]) I M ⟨⟨h3,fun _ _=> .inl (nh _)⟩,fun _ h=>(by cases h),trivial⟩ (fun k ⟨f,hf,hk⟩=>by
  rw [mf.1 hf]at hk;exact h4 k hk)
 exact k v fp _ _ S' (st'.put hd rfl)
def QY{O2:List OE}{cts:List Ty}{caps:List Operand}(hO:O=O1++O2)(hc:ak E.P fid=true)(hs:G9 E.P fid args it Ob O1 cts)(hcap:lI E.N G caps cts)(hd:Nat.blt d E.N.n=true)(k: ∀v fp,RG E ops tD rest (Qf E.P args it Ob v fp::O2) ((d,tV v)::G)):
  RG E ops tD (⟨some d,.makeFunc (.func fid) #[] caps.toArray,ty,pos,after,none⟩::rest) O G:= .of rfl fun a w S st=>by
 subst hO;have hr:(execOp a.eval ⟨some d,.makeFunc (.func fid) #[] caps.toArray,ty,pos,after,none⟩).run E.P w= .ok (.value (.func (.func fid) #[] (caps.map a.eval).toArray)) w:=by simp [execOp,Instr.makeFunc]
 refine⟨fun c h=>(by cases h),?_⟩;rw [hr];obtain⟨I,M,h3⟩:=rn st.own;have hcv:=hcap.tys st.facts;refine k (.func (.func fid) #[] (caps.map a.eval).toArray) (Fo O1) _ _ S ⟨st.ext,st.sat,?_,st.facts.put hd rfl⟩;refine dW.cons ⟨⟨fun b ⟨f,hf,H⟩=>f.here (dW.mem I f hf).1 b H,fid,_,rfl,hc,fun C w' S' he hC hs' =>?_⟩,fun b ⟨f,hf,H⟩=>(dW.mem I f hf).2 b H⟩ (fun f hf b ⟨g,hg,H⟩=>h3 g hg f hf b H) M;exact hs w' S' _ hs' (I.weak.ext he fun f hf b H=>hC b ⟨f,hf,H⟩) (hcv.mono he.keep)
end
def xy(l:Nat)(r:Loop)(st:LoopState)(pd:Option Code):OE where
 fp:=fun k=>k=l
 p:=fun w S=>S l=none/\w.heap[l]? =some (.loop {r with state:=st,pending:=pd})
 here:=by
  intro w S h k hk;subst hk;exact(Ba.1 h.2).1
 kept:=by
  intro C w w' S S' h k hC;have hlt:=(Ba.1 h.2).1;exact⟨by rw [k.old l hlt (hC l rfl)];exact h.1,by rw [k.heap l hlt (hC l rfl)];exact h.2⟩
def stJ(j:Option Nat):LoopState:=if j.isNone then .ready else .done
def acj(E:En)(l:Nat)(rec:Loop){σ ι:Type}(Oi:ι->List OE)(dat:ι->σ)(jc:Nat->Code)(r:Option Nat×σ):Ending->World->Prop:=fun en w' =>
 ∃i S',en= .returned (.bool r.1.isNone)/\dat i=r.2/\kh E.B E.w0 E.S0 w' S' /\nC w' S' /\dW E.base E.B w' S' (xy l rec (stJ r.1) (r.1.map jc)::Oi i)
def B4{α σ:Type}(f:α->σ->Option (Option Nat×σ)):α->Option Nat×σ->Option (Bool×(Option Nat×σ)):=fun x s=>
 match s.1 with
 |some _=>none
 |none=>(f x s.2).map fun r=>(r.1.isNone,r)
variable{base:Nat}{done:Array Bool}{rec:Loop}
section
def Gv{l:Nat}{st st' :LoopState}{pd pd' :Option Code}{O:List OE}(h:dW base B w S (xy l rec st pd::O))(hs:nC w S):
  kh (fun k=>k=l) w S (w.putObj l (.loop {rec with state:=st',pending:=pd' })) S/\nC (w.putObj l (.loop {rec with state:=st',pending:=pd' })) S/\dW base B (w.putObj l (.loop {rec with state:=st',pending:=pd' })) S (xy l rec st' pd' ::O):=by
 obtain⟨hno,hl⟩:=h.1.1;have hlt:=(Ba.1 hl).1;have hext:kh (fun k=>k=l) w S (w.putObj l (.loop {rec with state:=st',pending:=pd' })) S:=⟨rfl,rfl,rfl,kG _,by simp,fun k _ hk=>World.putObj_heap_other hk,SH.le_refl _,fun _ _ _=>rfl⟩;refine⟨hext,hs.same fun k o hk=>?_,⟨⟨hno,World.putObj_heap_same hlt⟩,h.1.2⟩,h.2.1,h.2.2.ext hext fun g hg k hk hkl=>h.2.1 g hg k hkl hk⟩;have hne:k≠l:=fun e=>by subst e;rw [hno]at hk;cases hk
 exact World.putObj_heap_other hne
def Po{l:Nat}{body:Code}{R:Ending->World->Prop}(h:CG E (roundPost E.P l R) body (xy l rec .busy none::O) G):AT E (aeM E l body R) .normal (xy l rec .ready none::O) G:=fun a w S st=>by
 obtain⟨I,M,h3⟩:=Gv (st' := .busy) (pd' :=none) st.own st.sat;obtain⟨_,hl⟩:=st.own.1.1;exact⟨_,run_beginRound hl rfl,h a _ S ⟨st.ext.step I (fun c hc=>st.own.1.2 c hc),M,h3,st.facts⟩⟩
def BV{l:Nat}{Oi:ι->List OE}{dat:ι->σ}{jc:Nat->Code}{s2:σ}(i:ι)(hi:dat i=s2)(hO:O=Oi i):AT E (roundPost E.P l (acj E l rec Oi dat jc (none,s2))) .normal (xy l rec .busy none::O) G:=fun a w S st=>by
 subst hO;obtain⟨I,M,h3⟩:=Gv (st' := .ready) (pd' :=none) st.own st.sat;obtain⟨_,hl⟩:=st.own.1.1;exact⟨_,_,run_endRound none hl,i,S,rfl,hi,st.ext.step I (fun c hc=>st.own.1.2 c hc),M,h3⟩
def Hd{l:Nat}{Oi:ι->List OE}{dat:ι->σ}{jc:Nat->Code}{s2:σ}(q:Nat)(hq:jc q= .ret)(i:ι)(hi:dat i=s2)(hO:O=Oi i):AT E (roundPost E.P l (acj E l rec Oi dat jc (some q,s2))) .ret (xy l rec .busy none::O) G:=fun a w S st=>by
 subst hO;obtain⟨I,M,h3⟩:=Gv (st' := .done) (pd' :=some .ret) st.own st.sat;obtain⟨_,hl⟩:=st.own.1.1;exact⟨_,_,run_endRound (some .ret) hl,i,S,rfl,hi,st.ext.step I (fun c hc=>st.own.1.2 c hc),M,by rw [Iq,hq];exact h3⟩
def Pj(Oi:ι->List OE)(dat:ι->σ)(jc:Nat->Code){f:α->σ->Option (Option Nat×σ)}{R:(Option Nat×σ)×X}{g:Operand}{ps:List Nat}{assign body:Code}(hr:E.r=none)(hg:be E.N G g (tV v))(i0:ι)(hO:O=Qf E.P args it Ob v fp::Oi i0)(hit:it (Option Nat×σ) (B4 f) (none,dat i0)=some R)(hps: ∀x,ps.length=(args x).length)(hpn:(ps.all fun d=>Nat.blt d E.N.n)=true)(hbody: ∀(i:ι) (x:α) (r:Option Nat×σ),f x (dat i)=some r-> ∀(l:Nat) (rec:Loop) (w1:World) (S1:SH) (B1:Nat->Prop),
   CG ⟨E.P,⟨E.N.n,[]⟩,B1,w1,S1,some l⟩ (aeM ⟨E.P,⟨E.N.n,[]⟩,B1,w1,S1,some l⟩ l body (acj ⟨E.P,⟨E.N.n,[]⟩,B1,w1,S1,some l⟩ l rec Oi dat jc r)) assign (xy l rec .ready none::Oi i) (On ps (args x) G))(k: ∀i' j,dat i' =R.1.2-> ∀b,(R.1.1=none->AT ⟨E.P,⟨E.N.n,CP b::E.N.ds⟩,E.B,E.w0,E.S0,E.r⟩ tD .normal (H0 b::(Ob R.2 j++Oi i')) G)/\
   (∀q,R.1.1=some q->CG ⟨E.P,⟨E.N.n,CP b::E.N.ds⟩,E.B,E.w0,E.S0,E.r⟩ tD (jc q) (H0 b::(Ob R.2 j++Oi i')) G)):CG E tD (.rangeFunc g ps.toArray assign body) O G:=fun a w S st=>by
 subst hO;refine wpIn_rangeFunc fun fn _=>?_;have hr0:(fw E.r).round=none:=hr;have hfw:fw E.r=fw none:=by rw [hr]
 rw [hr0];obtain⟨rec,hrec⟩: ∃rec:Loop,rec={state:= .ready,pending:=none,fn,tmps:=a.tmps,params:=ps.toArray,assign,body,defers:=w.heap.size}:=⟨_,rfl⟩;obtain⟨x1,x2,x3⟩:=jy (w:=w) (.deferred (some [])) st.sat;obtain⟨y1,y2,y3⟩:=jy (w:=w.alloc (.deferred (some []))) (.loop rec) x2;obtain⟨W1,hW1⟩: ∃W1,(w.alloc (.deferred (some []))).alloc (.loop rec)=W1:=⟨_,rfl⟩;rw [hW1]at y1 y2;have hsz:(w.alloc (.deferred (some []))).heap.size=w.heap.size+1:=by simp
 rw [hsz]at y3;have hext:kh vz w S W1 S:=x1.trans y1;have hL1:W1.heap[w.heap.size+1]? =some (.loop rec):=by
  rw [<-hW1];have:=World.alloc_heap_new (w.alloc (.deferred (some []))) (.loop rec);rwa [hsz]at this
 have hK1:W1.heap[w.heap.size]? =some (.deferred (some [])):=by
  rw [y1.heap w.heap.size (by omega) (fun h=>h)];exact World.alloc_heap_new w _
 have hW1s:W1.heap.size=w.heap.size+2:=by rw [<-hW1];simp
 have hg' :a.eval g=v:=hg S a st.facts;obtain⟨hit1,hap,hoi⟩:=st.own;obtain⟨⟨hfp,gf,cap,hv,hcal,hcall⟩,hbase⟩:=hit1;have hbl:=st.base_le;have hoi1:dW E.base E.B W1 S (Oi i0):=hoi.ext0 hext;have hlt: ∀f∈Oi i0,∀k,f.fp k->k<w.heap.size:=fun f hf k hk=>f.here (dW.mem hoi f hf).1 k hk;refine⟨w.heap.size+1,[CP w.heap.size],W1,{target:= .fn (.func gf) cap,args:= #[.func (.yield (w.heap.size+1)) #[] #[]]},W1,gf,
  #[.func (.yield (w.heap.size+1)) #[] #[]]++cap,W1,?_,?_,fun _ _=>trivial,?_,fun h=>(by cases h),?_⟩
 ·rw [<-hW1,hrec];exact run_enterLoop_outer _ _ _ _ _
 ·simp only [resolve,hg',hv];simp [go_sem]
 ·simp [invoke,go_sem,gC hcal]
 rw [hfw];refine ny.2 ?_;have hyld:Yld E.P args (B4 f) (fun s e=> ∃i,dat i=s.2/\e=v6 S (xy (w.heap.size+1) rec (stJ s.1) (s.1.map jc)::Oi i)) (.func (.yield (w.heap.size+1)) #[] #[]):=by
  refine⟨_,rfl,?_⟩;rintro x ⟨j0,s⟩ r hy e ⟨i,hi,rfl⟩ w2 S2 vs hs2 ⟨hle,hown⟩ hvs
  cases j0 with
  |some q=>unfold B4 at hy;cases hy
  |none=>
  have hi' :dat i=s:=hi;subst hi';obtain⟨r2,hs2',rfl⟩: ∃r2,f x (dat i)=some r2/\r=(r2.1.isNone,r2):=by
   unfold B4 at hy
   cases hf:f x (dat i)with
   |none=>simp only [hf]at hy;cases hy
   |some s2=>simp only [hf]at hy;exact⟨s2,rfl,by simpa using hy.symm⟩
  have hl2:=hown.1.1.2;have hvl:=hvs.length;have hyr:=run_yield (P:=E.P) (args:=vs.toArray) hl2 (by rw [hrec];simp [hps x,hvl]);refine⟨_,_,_,_,hyr,roundIn_of_wpIn trivial ?_⟩;have hown' :dW 0 vz w2 S2 (xy (w.heap.size+1) rec .ready none::Oi i):=hown;have:=hbody i x r2 hs2' (w.heap.size+1) rec w2 S2 (fun k=> ∃f∈xy (w.heap.size+1) rec .ready none::Oi i,f.fp k)
   {tmps:=(ps.zip vs).foldl (fun t (p:Nat×Value)=>t.setIfInBounds p.1 p.2) a.tmps,defers:=[]} w2 S2
   ⟨kh.refl _ _ _,hs2,ox hown' fun f hf k hk=> .inr ⟨f,hf,hk⟩,Fs ps (args x) vs ⟨a.tmps,[]⟩ G (hps x) hvs hpn ⟨st.facts.size,rfl,fun j t h=>t.mono hle (st.facts.at_ j t h)⟩⟩
  rw [hrec];rw [hrec]at this;rw [B3];refine wpIn_mono this ?_;intro e a3 w3 hp
  cases e with
  |normal=>
   obtain⟨w4,hb4,hp4⟩:=hp;refine⟨w4,hb4,wpIn_mono hp4 ?_⟩;have hR: ∀en w',acj ⟨E.P,⟨E.N.n,[]⟩,fun k=> ∃f∈xy (w.heap.size+1) rec .ready none::Oi i,f.fp k,w2,S2,some (w.heap.size+1)⟩ (w.heap.size+1) rec Oi dat jc r2 en w' ->
     ∃e' S',en= .returned (.bool r2.1.isNone)/\(∃i',dat i' =r2.2/\e' =v6 S (xy (w.heap.size+1) rec (stJ r2.1) (r2.1.map jc)::Oi i'))/\kh (v6 S (xy (w.heap.size+1) rec .ready none::Oi i)).fp w2 S2 w' S' /\nC w' S' /\e'.p w' S' /\ ∀k,e'.fp k->(v6 S (xy (w.heap.size+1) rec .ready none::Oi i)).fp k\/w2.heap.size<=k:=by
    rintro en w' ⟨i',S',I,M,h3,h4,h5⟩;exact⟨_,S',I,⟨i',M,rfl⟩,h3,h4,⟨SH.le_trans hle h3.keep,h5.weak⟩,fun k ⟨f,hf,hk⟩=>((dW.mem h5 f hf).2 k hk).symm⟩
   rw [hrec]at hR;intro e5 a5 w5 hp5;cases e5<;>simp only [roundPost]at hp5 ⊢
   case normal=>obtain⟨v5,w6,I,M⟩:=hp5;exact⟨v5,w6,I,hR _ _ M⟩
   case ret=>obtain⟨v5,w6,I,M⟩:=hp5;exact⟨v5,w6,I,hR _ _ M⟩
   case exit=>obtain⟨v5,w6,I,M⟩:=hp5;exact⟨v5,w6,I,hR _ _ M⟩
   case goto=>obtain⟨v5,w6,I,M⟩:=hp5;exact⟨v5,w6,I,hR _ _ M⟩
  |_=>exact hp
 have hrecE:W1.heap[w.heap.size+1]? =some (.loop {rec with state:= .ready,pending:=none}):=by rw [hL1,hrec]
 have he0:(v6 S (xy (w.heap.size+1) rec .ready none::Oi i0)).p W1 S:=⟨SH.le_refl _,⟨⟨y3,hrecE⟩,fun _ _=> .inl (nh _)⟩,fun f hf k hk hfk=>by have:=hlt f hf k hfk;have hk' :k=w.heap.size+1:=hk;omega,hoi1.weak⟩;have hap0: ∀k,(v6 S (xy (w.heap.size+1) rec .ready none::Oi i0)).fp k-> ¬fp k:=by
  rintro k ⟨f,hf,hk⟩ hfk;rcases iW.1 hf with rfl|hf
  ·have:=hfp k hfk;have hk' :k=w.heap.size+1:=hk;omega
  ·exact hap f hf k hfk hk
 refine(hcall vz W1 S hext (fun _ _ h=>h) y2 _ (B4 f) (none,dat i0) R hit _ _ hyld _ ⟨i0,rfl,rfl⟩ he0 hap0).mono ?_;rintro en w2 ⟨e',S2,j,⟨vr,rfl⟩,⟨i',hi',rfl⟩,B_,hs2,⟨hle2,hown2⟩,hob,hnew,hapo⟩;have hl2:=hown2.1.1.2;have hnb: ∀k,(H0 w.heap.size).fp k-> ¬((v6 S (xy (w.heap.size+1) rec .ready none::Oi i0)).fp k\/fp k):=by
  rintro k hk h;have hk' :k=w.heap.size:=hk;subst hk';rcases h with⟨f,hf,hfk⟩|h
  ·rcases iW.1 hf with rfl|hf
   ·have hk' :w.heap.size=w.heap.size+1:=hfk;omega
   ·have:=hlt f hf _ hfk;omega
  ·have:=hfp _ h;omega
 have hBin: ∀k,((v6 S (xy (w.heap.size+1) rec .ready none::Oi i0)).fp k\/fp k)->E.w0.heap.size<=k\/E.B k:=by
  rintro k (⟨f,hf,hk⟩|h)
  ·rcases iW.1 hf with rfl|hf
   ·left;have hk' :k=w.heap.size+1:=hk;have:E.w0.heap.size<=w.heap.size:=hbl;omega
   ·exact(dW.mem hoi f hf).2 k hk
  ·exact hbase k h
 have hBn: ∀k,((v6 S (xy (w.heap.size+1) rec (stJ R.1.1) (R.1.1.map jc)::Oi i')).fp k\/Fo (Ob R.2 j) k)->E.base<=k\/E.B k:=fun k hk=>(hnew k hk).elim (hBin k) (fun h=> .inl (by have I:E.base<=w.heap.size:=hbl;have M:W1.heap.size<=k:=h;omega));have hb2:dW E.base E.B w2 S2 (xy (w.heap.size+1) rec (stJ R.1.1) (R.1.1.map jc)::(Ob R.2 j++Oi i')):=by
  obtain⟨q1,q2,q3⟩:=hown2;refine dW.cons ⟨q1.1,fun k hk=>hBn k (.inl ⟨_,md ..,hk⟩)⟩ (fun f hf=>?_) (G8 (ox hob fun f hf k hk=>hBn k (.inr ⟨f,hf,hk⟩)) (ox q3 fun f hf k hk=>hBn k (.inl ⟨f,ma _ hf,hk⟩)) fun e he f hf k hek hfk=>hapo k ⟨f,ma _ hf,hfk⟩ ⟨e,he,hek⟩);rcases qR.1 hf with hf|hf
  ·exact fun k hk hfk=>hapo k ⟨_,md ..,hk⟩ ⟨f,hf,hfk⟩
  ·exact q2 f hf
 have hend:stJ R.1.1≠ .busy:=by unfold stJ;split<;>simp
 obtain⟨z1,z2,z3⟩:=Gv (st' := .exhausted) (pd' :=R.1.1.map jc) hb2 hs2;have hdf:(H0 w.heap.size).p W1 S:=⟨x3,hK1⟩;have hd2:(H0 w.heap.size).p w2 S2:=(H0 w.heap.size).kept hdf B_ hnb;have hd3:=(H0 w.heap.size).kept hd2 z1 (fun k hk hkl=>by have I:k=w.heap.size:=hk;have M:k=w.heap.size+1:=hkl;omega);have stE:St ⟨E.P,⟨E.N.n,CP w.heap.size::E.N.ds⟩,E.B,E.w0,E.S0,E.r⟩ (H0 w.heap.size::(Ob R.2 j++Oi i')) G {a with defers:=[CP w.heap.size]++a.defers} (w2.putObj (w.heap.size+1) (.loop {rec with state:= .exhausted,pending:=R.1.1.map jc})) S2:=by
  refine⟨((st.ext.step0 hext).step B_ hBin).step z1 (fun c hc=>z3.1.2 c hc),z2,?_,?_⟩
  ·refine dW.cons ⟨hd3,fun k hk=> .inl (by have I:k=w.heap.size:=hk;rw [I];exact hbl)⟩ (fun f hf k hk hfk=>?_) z3.2.2;have I:k=w.heap.size:=hk;have M:((v6 S (xy (w.heap.size+1) rec (stJ R.1.1) (R.1.1.map jc)::Oi i')).fp k\/Fo (Ob R.2 j) k):=by
    rcases qR.1 hf with hf|hf
    ·exact .inr ⟨f,hf,hfk⟩
    ·exact .inl ⟨f,ma _ hf,hfk⟩
   rcases hnew k M with h|h
   ·exact hnb k hk h
   ·omega
  ·refine⟨st.facts.size,?_,fun j t hj=>t.mono (SH.le_trans (SH.le_refl S) hle2) (st.facts.at_ j t hj)⟩;show CP w.heap.size::a.defers=_;rw [st.facts.defers]
 obtain⟨k1,k2⟩:=k i' j hi' w.heap.size;refine⟨_,_,run_endLoop hl2 hend,?_⟩
 cases hR1:R.1.1 with
 |none=>
  rw [hR1]at stE;exact k1 hR1 _ _ S2 stE
 |some q=>
  rw [hR1]at stE;have:=k2 q hR1 _ _ S2 stE;show(jc q).wpIn (fw none) 0 E.P tD _ _;have hE:fw (⟨E.P,⟨E.N.n,CP w.heap.size::E.N.ds⟩,E.B,E.w0,E.S0,E.r⟩:En).r=fw none:=hfw;rw [hE]at this;exact this
end
def oiL(l:List (Option Nat×Nat)):OI:={h:=fun n=>l.getD n (none,0)}
def ij(P:Program){A X ρ:Type}(args:A->List Ty)(Ob:X->OI->List OE)(res:ρ->Ty)(f:X->A->Option (ρ×X)):Ty where
 p:=fun S v=> ∀x y R,f x y=some R-> ∃fid fst cap,v= .func (.func fid) fst cap/\ak P fid=true/\ ∀i w S' vs,SH.le S S' ->nC w S' ->B5 S' (args y) vs->dW 0 vz w S' (Ob x i)->
  Calls P fid (fst++vs.toArray++cap) w fun en w' => ∃j v S'',en= .returned v/\(res R.1).p S'' v/\kh (Fo (Ob x i)) w S' w' S'' /\nC w' S'' /\dW 0 vz w' S'' (Ob R.2 j)/\ ∀k,Fo (Ob R.2 j) k->Fo (Ob x i) k\/w.heap.size<=k
 mono:=fun h k x y R hf=>by
  obtain⟨fid,fst,cap,e,hc,hs⟩:=k x y R hf;exact⟨fid,fst,cap,e,hc,fun i w S' vs hle=>hs i w S' vs (SH.le_trans h hle)⟩
variable{A ρ:Type}{res:ρ->Ty}
def N6{args:A->List Ty}:(ij P args Ob res (fun _ _=>none)).p S v:=fun _ _ _ h=>by cases h
section
section
def nI{args:A->List Ty}{f:X->A->Option (ρ×X)}{p:Operand}(hc:ak E.P fid=true)(hp:be E.N G p (tV (aE b 0)))(hs: ∀x y R,f x y=some R-> ∀i,dZ E.P fid (tV (aE b 0)::args y) (Ob x i) (fun _:OI=>res R.1) (fun j=>Ob R.2 j)):
  cu E O G ⟨dst,.makeFunc (.func fid) #[p] #[],ty,pos,after,g⟩ (ij E.P args Ob res f):= .of_pure fun a w S _ _ hf=>by
 have I:a.eval p=aE b 0:=hp S a hf;refine⟨.func (.func fid) #[aE b 0] #[],by simp [execOp,Instr.makeFunc,I],fun x y R hR=>⟨fid,#[aE b 0],#[],rfl,hc,fun i w' S' vs _ hsat hv ho=>?_⟩⟩;have:=hs x y R hR i w' S' (aE b 0::vs) hsat ⟨rfl,hv⟩ ho;rw [show(#[aE b 0]++vs.toArray++ #[]:Array Value)=(aE b 0::vs).toArray from by simp];exact this
end
def GW{args:A->List Ty}{f:X->A->Option (ρ×X)}{x:X}{y:A}{R:ρ×X}{i:OI}{fo:Operand}{xs:List Operand}(Or:List OE)(hO:O=Ob x i++Or)(hf:be E.N G fo (ij E.P args Ob res f))(hR:f x y=some R)(V:lI E.N G xs (args y))(hpost: ∀j,Ob R.2 j++Or=post j):
  EffOK E O G ⟨some d,.call ⟨.value fo,xs.toArray,ats⟩,ty,pos,after,g⟩ post (fun _=>res R.1):=fun a w S hsat ho hF H=>by
 subst hO;obtain rfl:(fun j=>Ob R.2 j++Or)=post:=funext hpost;obtain⟨fid,fst,cap,e,hc,hs⟩:=hf S a hF x y R hR;have hr:(execOp a.eval ⟨some d,.call ⟨.value fo,xs.toArray,ats⟩,ty,pos,after,g⟩).run E.P w= .ok (.enter fid (fst++(xs.map a.eval).toArray++cap)) w:=by
  simp [execOp,resolve,e,Deferred.ofValue,invoke,gC hc]
 refine⟨fun c h=>(by cases h),?_⟩;rw [hr];exact(hs i w S _ (SH.le_refl _) hsat (V.tys hF) (rn ho).1.weak).mono fun en w' ⟨j,v,S',he,hv,I,M,h3,h4⟩=>⟨_,he,v,S',j,rfl,I.more fun b ⟨f,hf,H⟩=>⟨f,Ep _ hf,H⟩,M,dW.turn ho H I h3 h4,hv⟩
def lS{t:Ty}{Ob:OI->List OE}{i:OI}(h:dZ P f ts O1 (fun _:OI=>t) (fun _=>Ob i)):dZ P f ts O1 (fun _:OI=>t) Ob:=fun w S vs hs hv ho=>
 (h w S vs hs hv ho).mono fun _ _ ⟨_,v,S',I,M,h3,h4,h5,h6⟩=>⟨i,v,S',I,M,h3,h4,h5,h6⟩
section
variable{t:ι->Ty}
def gI{rvs:List ResultVar}(hr:fn.results=rvs.toArray)(I:Nat.beq rvs.length 1=false)(h:YR P ⟨N,[]⟩ G rvs ts)(i:ι)(hO:O=O2 i)(J:t i=tT ts):
  AT ⟨P,⟨N,[]⟩,Fo O1,w0,S0,none⟩ (bodyPost P fn (aa3 ⟨P,⟨N,[]⟩,Fo O1,w0,S0,none⟩ O1 t O2)) .ret O G:=fun a w S st=>by
 obtain⟨vs,k1,k2,k3⟩:=h.run st.sat st.facts;have hne: ¬vs.length=1:=by rw [k3];intro e;rw [e]at I;cases I
 refine⟨st.facts.defers,.tuple vs.toArray,?_,WU st rfl i hO (by rw [J];exact⟨vs,rfl,k2⟩)⟩;have e1:(fn.results.mapM (Fh a.tmps)).run P w= .ok vs.toArray w:=by
  rw [hr,List.mapM_toArray,Sem.run_map,k1];rfl
 have e3:results fn a.tmps=((fn.results.mapM (Fh a.tmps))>>=fun vs=>pure (if h:vs.size=1 then vs[0]else .tuple vs)):=rfl;rw [e3,Ak,e1];simp [Result.andThen,hne]
end
def tPV(u:Value)(t:Ty):Ty where
 p:=fun S v=>v=u/\t.p S u
 mono:=fun h ⟨e,k⟩=>⟨e,t.mono h k⟩
def St.settleP{k:Nat}{x:α}(h:St E (bx r aj b x::O) G a w S)(hk:cH G k=some (tV (aE b 0))): ∃S',St E O ((k,tPV (aE b 0) (bH r x))::G) a w S' :=by
 obtain⟨S',I⟩:=h.settleB hk;have hv:a.tmps.getD k undef=aE b 0:=h.facts.at_ k _ hk;refine⟨S',⟨I.ext,I.sat,I.own,⟨I.facts.size,I.facts.defers,fun j t hj=>?_⟩⟩⟩;have hp:(bH r x).p S' (a.tmps.getD k undef):=I.facts.at_ k _ (by simp [cH]);by_cases H:Nat.beq k j=true
 ·have e:=zp H;subst e;simp only [cH,Nat.beq_refl,cond_true,FZ]at hj;subst hj;exact⟨hv,by rw [<-hv];exact hp⟩
 ·rw [yE]at H;have:cH ((k,bH r x)::G) j=some t:=by
   simp only [cH,H,cond_false]at hj ⊢;exact hj
  exact I.facts.at_ j t this
def FN{x:α}{e:Exit}(k:Nat)(hk:cH G k=some (tV (aE b 0)))(h:AT E tD e O ((k,tPV (aE b 0) (bH r x))::G)):AT E tD e (bx r aj b x::O) G:=
 fun a w _ st=>let⟨S',st'⟩:=st.settleP hk;h a w S' st'
def aeL{hs:HL}{x:α}(h:dW base B w S (bx (rH r hs) aj b x::O)):dW base B w S (bx r aj b x::O):=by
 obtain⟨⟨⟨I,c,M,h3⟩,h4⟩,h5,h6⟩:=h;exact⟨⟨⟨I,c,M,h3.1⟩,h4⟩,h5,h6⟩
def Im{hs:HL}{x:α}{e:Exit}(h:AT E tD e (bx r aj b x::O) G):AT E tD e (bx (rH r hs) aj b x::O) G:=fun a w S st=>h a w S (st.own_map aeL)
def Hx{N:Fr}{G:pC}{k j:Nat}{u:Value}{t:Ty}(ti:TI P aj 1 bytes false z)(hk:cH G k=some (bH rV u))(hj:cH G j=some (tPV u t)):Xv P N G (.cell k aj) t:=fun a w S hs hf=>by
 obtain⟨v,I,M⟩:=aU (r:=rV) ti rfl rfl hk a w S hs hf;have h3:=(xN.1 M).1;subst h3;obtain⟨_,h4⟩:=hf.at_ j _ hj;exact⟨v,I,h4⟩
end
variable{hx:MV β}{es:List Bool}{et kt:TypeId}{kv:κ->Value}{os:List (Option Nat×Nat)}{γ:β->Ty}
section
variable [DecidableEq κ]{k:κ}{x i v:Operand}{dst:Option Nat}
def gF{y:β}(hm:E.P.underlying t=some (.map kt et))(hk:MQ E.P kt kv)(V:be E.N G x (tV (uv b)))(hi:Pg E.N G i (kv k))(hv:be E.N G v (γ y))(h: ∀os',RG E ops tD rest (tF (CO γ) kv b none os' (dO m k y)::O) G):
  RG E ops tD (⟨none,.insert t x i v,ty,pos,after,none⟩::rest) (tF (CO γ) kv b none os m::O) G:= .of rfl fun a w S st=>by
 have I:a.eval x=uv b:=V S a st.facts;have M:a.eval i=kv k:=hi S a st.facts;have h3:(γ y).p S (a.eval v):=hv S a st.facts;obtain⟨⟨hp,hfp⟩,hap,hO⟩:=st.own;obtain⟨hno,hnb,es,clock,e3,e4,hst⟩:=hp;obtain⟨q,hq,hdk,hinj⟩:=hk;obtain⟨os1,p1,p2,_⟩:=wz hdk hinj (k:=k) 0 e4;have hnb1: ∀o∈os1,o.1≠some b:=fun o ho=>by
  rcases p1 o ho with h|h
  ·exact hnb o h
  ·rw [h];exact fun e=>by cases e
 obtain⟨w',os',r,x1,x2,x3,x4⟩:=Oy (hx:=CO γ) (E:=E) (y:=y) (o:=(none,0)) (val:=a.eval v) st.sat hm ⟨q,hq,hdk,hinj⟩ ⟨hno,hnb1,es,clock,e3,p2,hst⟩ ⟨rfl,h3⟩ (fun e=>by cases e) (fun _ _ _ e=>by cases e);have hrun:(execOp a.eval ⟨none,.insert t x i v,ty,pos,after,none⟩).run E.P w= .ok .skip w' :=by simp [execOp,I,M,r]
 refine⟨fun c h=>(by cases h),?_⟩;rw [hrun];have hfp' : ∀j,(tF (CO γ) kv b none os' (dO m k y)).fp j->(tF (CO γ) kv b none os m).fp j:=fun j hj=>by
  rcases x4 j hj with(h|⟨o,ho,e⟩)|e
  ·exact .inl h
  ·rcases p1 o ho with h|h
   ·exact .inr ⟨o,h,e⟩
   ·rw [h]at e;cases e
  ·cases e
 exact h os' _ _ S ⟨st.ext.step x1 (fun c hc=>hfp c (.inl hc)),x2,⟨⟨x3,fun j hj=>hfp j (hfp' j hj)⟩,fun f hf j hj=>hap f hf j (hfp' j hj),hO.ext x1 fun f hf j hj hjb=>hap f hf j (.inl hjb) hj⟩,st.facts⟩
end
def isT(b:Bool):Option Unit:=if b then some ()else none
def aag{b:Bool}{u:Unit}(h:isT b=some u):b=true:=by
 unfold isT at h;split at h
 ·assumption
 ·cases h
def OR{κ β:Type}(γ:β->Ty)(kv:κ->Value)(S:SH):List MapEntry->List (κ×β)->Prop
 |[],[]=>True
 |e::es,q::m=>e.key=kv q.1/\(γ q.2).p S e.val/\(∀p∈m,p.1≠q.1)/\OR γ kv S es m
 |_,_=>False
def Fw{κ β:Type}{γ:β->Ty}{kv:κ->Value}{S S' :SH}(h:SH.le S S'): ∀{es:List MapEntry} {m:List (κ×β)},OR γ kv S es m->OR γ kv S' es m
 |[],[],_=>trivial
 |_::_,q::_,⟨I,M,h3,h4⟩=>⟨I,(γ q.2).mono h M,h3,Fw h h4⟩
def aa2{κ β:Type} [DecidableEq κ]{γ:β->Ty}{kv:κ->Value}{w:World}{S:SH}: ∀{es:List MapEntry} {os:List (Option Nat×Nat)} {m:List (κ×β)},Ci (CO γ) kv w S none es os m->OR γ kv S es m
 |[],[],[],_=>trivial
 |_::_,_::_,_::_,⟨I,M,_,h4,h5⟩=>⟨I,by rw [aR (by simp)]at M;exact M.2,h4,aa2 h5⟩
def abN{κ β:Type} [DecidableEq κ]{γ:β->Ty}{kv:κ->Value}{w:World}{S:SH}: ∀{es:List MapEntry} {m:List (κ×β)},OR γ kv S es m->Ci (CO γ) kv w S none es (m.map fun _=>(none,0)) m
 |[],[],_=>trivial
 |_::_,_::_,⟨I,M,h3,h4⟩=>⟨I,by rw [aR (by simp)];exact⟨rfl,M⟩,fun _ _ _ h=>(by cases h),h3,abN h4⟩
def KN{κ β:Type}(γ:β->Ty)(kv:κ->Value)(m:List (κ×β)):Ty where
 p:=fun S v=> ∃b es clock,v=uv b/\S b=some (.map es clock)/\OR γ kv S es.toList m
 mono:=fun h ⟨b,es,cl,e,I,M⟩=>by
  obtain⟨o',h3,h4⟩:=h b _ I;have h5:o' = .map es cl:=h4;subst h5;exact⟨b,es,cl,e,h3,Fw h M⟩
def acq: ∀S v,(KN γ kv m).p S v->v.oneCell' =true:=fun _ _ ⟨_,_,_,e,_⟩=>by rw [e];rfl
section
variable [DecidableEq κ]{k:κ}{x i:Operand}{dst:Option Nat}
def St.settleMp{j:Nat}(h:St E (tF (CO γ) kv b none os m::O) G a w S)(hk:cH G j=some (tV (uv b))): ∃S',St E O ((j,KN γ kv m)::G) a w S' :=by
 obtain⟨⟨hn,_,es,clock,h3,h4,_⟩,_⟩:=h.own.1;obtain⟨h8,hle,_,_⟩:=Bg h (.inl rfl) h3 (yX _) hn;have hv:a.tmps.getD j undef=uv b:=h.facts.at_ j _ hk;exact⟨_,h8.cons ⟨b,es,clock,hv,by simp [SH.set],Fw hle (aa2 h4)⟩⟩
def Jp{e:Exit}(j:Nat)(hk:cH G j=some (tV (uv b)))(h:AT E tD e O ((j,KN γ kv m)::G)):AT E tD e (tF (CO γ) kv b none os m::O) G:=
 fun a w _ st=>let⟨S',st'⟩:=st.settleMp hk;h a w S' st'
end
def tFn(P:Program){α β:Type}(args:α->List Ty)(res:β->Ty)(f:α->Option β):Ty where
 p:=fun S v=> ∀x y,f x=some y-> ∃fid cap,v= .func (.func fid) #[] cap/\ak P fid=true/\ ∀w S' vs,SH.le S S' ->nC w S' ->B5 S' (args x) vs->
  Calls P fid (vs.toArray++cap) w fun e w' => ∃v S'',e= .returned v/\kh vz w S' w' S'' /\nC w' S'' /\(res y).p S'' v
 mono:=fun h k x y hxy=>by
  obtain⟨f,cap,e,hc,k⟩:=k x y hxy;exact⟨f,cap,e,hc,fun w S' vs hle=>k w S' vs (SH.le_trans h hle)⟩
def agx{N:Fr}{res:β->Ty}{f:α->Option β}{x:Operand}(h:be N G x (eD P args res f)):be N G x (tFn P args res f):=fun S a hf u y hxy=>by
 obtain⟨fid,cap,e,hc,k⟩:=h S a hf;exact⟨fid,cap,e,hc,fun w S' vs=>k u y hxy w S' vs⟩
def aca{res:β->Ty}:(tFn P args res (fun _:α=>(none:Option β))).p S v:=fun _ _ h=>by cases h
def HH{res:β->Ty}{f:α->Option β}{fo:Operand}{x:α}{y:β}{xs:List Operand}(hfo:be E.N G fo (tFn E.P args res f))(h:f x=some y)(V:lI E.N G xs (args x)):
  cu E O G ⟨dst,.call ⟨.value fo,xs.toArray,ats⟩,ty,pos,after,g⟩ (res y):=fun a w S hS _ hF=>by
 obtain⟨fid,cap,e,hc,hs⟩:=hfo S a hF x y h;have hr:(execOp a.eval ⟨dst,.call ⟨.value fo,xs.toArray,ats⟩,ty,pos,after,g⟩).run E.P w= .ok (.enter fid ((xs.map a.eval).toArray++cap)) w:=by
  simp [execOp,resolve,e,Deferred.ofValue,invoke,gC hc]
 refine⟨fun c h=>(by cases h),?_⟩;rw [hr];exact(hs w S _ (SH.le_refl _) hS (V.tys hF)).mono fun e w' ⟨v,S',he,I,M,h3⟩=>⟨v,he,v,S',rfl,I,M,h3⟩
def GS:Nat:=1000000
def tGl{α:Type}(r:Rp α)(x:α)(g:Nat):Ty where
 p:=fun S _=>(bH r x).p S (aE g 0)
 mono:=fun h k=>(bH r x).mono h k
def agZ{x:α}{g:Nat}{vs:List Value}(hs:nC w S)(hg:(g,vs)∈glob)(hr: ∀S,r.rc S vs x):(bH r x).p S (aE g 0):=by
 obtain⟨c,aj,fr,I,M⟩:=hs.gl _ hg;refine⟨g,0,c,aj,fr,rfl,I,?_⟩;rw [xu,<-r.len (hr S)];have h3:c.toList.take vs.length=vs:=M;rw [h3];exact hr S
section
def aaE{N:Fr}{t:Ty}(hf:du N S a G)(h: ∀v,t.p S v):du N S a ((GS,t)::G):=⟨hf.size,hf.defers,fun j u hj=>by
 unfold cH at hj
 cases H:Nat.beq GS j with
 |true=>
  rw [H]at hj;simp only [cond_true,FZ]at hj;rw [<-hj];exact h _
 |false=>
  rw [H]at hj;simp only [cond_false]at hj;exact hf.at_ j u hj⟩
def YV{x:α}{v:Nat}{vs:List Value}{t:Ty}(hg:(v,vs)∈glob)(hr: ∀S,r.rc S vs x)(h:cu E O ((GS,tGl r x v)::G) o t):cu E O G o t:=fun a w S hs ho hf=>
 h a w S hs ho (aaE hf fun _=>agZ hs hg hr)
def ai6{N:Fr}{x:α}{v:Nat}:be N ((GS,tGl r x v)::G) (.global v) (bH r x):=fun S a hf=>hf.at_ GS (tGl r x v) (by simp [cH])
def Ou{s u:Fy}{x:Operand}{hi:Operand}{j:Int}(J:E.P.underlying t=some .string)(V:be E.N G x (Q rS s))(hh:be E.N G hi (Q (rI k) j))(hy:df s 0 j=some u):
  cu E O G ⟨dst,.slice t x none (some hi) none,ty,pos,after,g⟩ (Q rS u):= .of_pure fun a w S _ _ hf=>by
 have I:a.eval x= .string ⟨s.toArray⟩:=Cw.1 (V S a hf);have M:a.eval hi= .int k j:=d7.1 (hh S a hf);obtain⟨l,m,e1,e2,e3,e4,e5⟩:=jp hy;have el:l=0:=by omega
 subst el e2 e5;have hsz:(ByteArray.mk s.toArray).size=s.length:=by simp [ByteArray.size]
 have h3:=run_slice_string_h (P:=E.P) w t ⟨s.toArray⟩ J k (m:Int) (by omega) (by rw [hsz];omega);refine⟨_,by simp only [execOp,I,M,Option.map_none,Iq,Ak,run_sliceAt_string w t _ _ _ _ J,h3,B8,Sem.run_pure];rfl,Cw.2 ?_⟩;congr 1;apply ByteArray.ext;simp
def aeI(a b:Fy):Int:=Lib.compareBytes a b
def acw{s u:Fy}{x y:Operand}(hf:E.P.funcs[f]? =some fn)(hname:(fn.name== "runtime.NumGoroutine")=false)(H:fn.body.isNone=true)(hn:Extern.findNext fn=none)(he:Extern.find fn=some Extern.BytealgCompare.compare)(V:be E.N G x (Q rS s))(hy:be E.N G y (Q rS u)):
  cu E O G ⟨dst,.call ⟨.value (.func f),#[x,y],ats⟩,ty,pos,after,g⟩ (Q (rI .i64) (aeI s u)):= .of_pure fun a w S _ _ hF=>by
 have I:a.eval x= .string ⟨s.toArray⟩:=Cw.1 (V S a hF);have M:a.eval y= .string ⟨u.toArray⟩:=Cw.1 (hy S a hF);refine⟨.int .i64 (aeI s u),?_,d7.2 rfl⟩;have h3:=run_callFunc_extern hf hname H hn he #[.string ⟨s.toArray⟩,.string ⟨u.toArray⟩] w;rw [Lib.run_compareString]at h3;have h0:a.eval (.func f)= .func (.func f) #[] #[]:=rfl;simp [execOp,resolve,h0,Deferred.ofValue,invoke,I,M,h3,aeI,Result.andThen]
end
open Go.MapKept (Stamped)
section
variable [DecidableEq κ]
end
section
variable [DecidableEq κ]{r:Nat}{left:List κ}{cur:Option κ}{k:κ}{x i v:Operand}{dst:Option Nat}
end
open Go.RowKit
variable{ix:Nat}
section
def Ov{y:α}{x ix:Operand}{i:Int}(J:E.P.underlying t=some (.array n e))(ti:TI E.P e sz bytes agg z)(hsz:r.sz=sz)(hag:r.agg=agg)(V:be E.N G x (Q (tE r n) xs))(hi:be E.N G ix (Q (rI k) i))(hy:cO xs i=some y):cu E O G ⟨dst,.index t x ix,ty,pos,after,g⟩ (Q r y):= .of_pure fun a w S _ _ hf=>by
 obtain⟨cs,I,M,h3⟩:=V S a hf;have h1' :a.eval x= .agg cs.toArray:=I;have h4:a.eval ix= .int k i:=d7.1 (hi S a hf);obtain⟨g1,g2⟩:=m7 hy;have hlt:i.toNat<xs.length:=(qS.1 g2).1;have hg:=Br h3 g2;have hin:0<=i/\i<(n:Int):=⟨g1,by omega⟩;refine⟨r.val ((cs.drop (i.toNat*r.sz)).take r.sz),?_,_,rfl,hg⟩;have hp:(part e cs.toArray (i.toNat*sz)).run E.P w= .ok (r.val ((cs.drop (i.toNat*r.sz)).take r.sz)) w:=by
  subst hsz;subst hag;have hl:=r.len hg;unfold part;simp only [Ak,ti.isAgg,B8]
  cases hA:r.agg with
  |true=>
   simp [ti.sizeOf,Rp.val,hA]
  |false=>
   have I:=r.sc hA;rw [I,Nat.mul_one]at hl ⊢
   cases hd:cs.drop i.toNat with
   |nil=>rw [hd]at hl;simp at hl
   |cons v l=>
    have hv:cs[i.toNat]? =some v:=by
     have:=A7 (xs:=cs) (i:=i.toNat) (j:=0);rw [hd]at this;simpa using this.symm
    simp [Rp.val,hA,hv]
 simp [execOp,h1',h4,Instr.index,asIntOf,oS J,hin,ti.sizeOf,hp]
end
abbrev NG:=Nat->(Option Nat×Nat)×(Nat->Option Nat×Nat)
inductive NPl where
 |o
 |i (k:Nat)
 |l (k j:Nat)
section
def hd2(q:Nat->Option Nat×Nat)(zs:List (List α)):List Value:=zs.mapIdx fun j z=>aY (q j).1 (q j).2 z.length
def hd1(prj:β->List (List α))(g:NG)(x:List β):List Value:=x.mapIdx fun k y=>aY (g k).1.1 (g k).1.2 (prj y).length
def nsB(prj:β->List (List α))(l:Option Nat)(g:NG)(x:List β)(h:Option (Nat×Nat)):NPl->Option Nat
 | .o=>l
 | .i k=>(x[k]?).bind fun _=>(g k).1.1
 | .l k j=>if h=some (k,j)then none else((x[k]?).bind fun y=>(prj y)[j]?).bind fun _=>((g k).2 j).1
structure nstP(prj:β->List (List α))(r:Rp α)(T1 T2 T3:TypeId)(l:Option Nat)(cap n:Nat)(g:NG)(x:List β)(h:Option (Nat×Nat))(w:World)(S:SH):Prop where
 len:x.length=n
 out:H9 false rV T1 l cap (hd1 prj g x) w S
 inn: ∀k y,x[k]? =some y->H9 false rV T2 (g k).1.1 (g k).1.2 (hd2 (g k).2 (prj y)) w S
 lvs: ∀k y j z,x[k]? =some y->(prj y)[j]? =some z->h≠some (k,j)->H9 true r T3 ((g k).2 j).1 ((g k).2 j).2 z w S
 inj: ∀s t b,nsB prj l g x h s=some b->nsB prj l g x h t=some b->s=t
variable{prj:β->List (List α)}{T1 T2 T3:TypeId}{l:Option Nat}{g:NG}{x:List β}{h:Option (Nat×Nat)}{w' :World}
end
section
variable{prj:β->List (List α)}{T1 T2 T3:TypeId}{l:Option Nat}{g:NG}{x:List β}{h:Option (Nat×Nat)}
variable{gd:Option (Nat×Bool)}
open Classical in
noncomputable def settleS(w:World)(S:SH)(P:Nat->Prop):SH:=fun b=>if P b then w.heap[b]? else S b
def g0(hs:List (Option Nat×Nat)):NG:=fun k=>(hs.getD k (none,0),fun _=>(none,0))
def tsB(l:Option Nat)(q:Nat->Option Nat×Nat)(zs:List (List α))(h:Option Nat):Option Nat->Option Nat
 |none=>l
 |some j=>if h=some j then none else(zs[j]?).bind fun _=>(q j).1
structure rowP(r:Rp α)(T2 T3:TypeId)(l:Option Nat)(cap n:Nat)(q:Nat->Option Nat×Nat)(zs:List (List α))(h:Option Nat)(w:World)(S:SH):Prop where
 len:zs.length=n
 inn:H9 false rV T2 l cap (hd2 q zs) w S
 lvs: ∀j z,zs[j]? =some z->h≠some j->H9 true r T3 (q j).1 (q j).2 z w S
 inj: ∀s t b,tsB l q zs h s=some b->tsB l q zs h t=some b->s=t
variable{q:Nat->Option Nat×Nat}{zs:List (List α)}{k:Option Nat}
end
def Nz(es:List Bool)(done:Array Bool):List Nat:=(List.range es.length).filter fun k=>(es[k]?).getD false&&done.getD k false
def acM(es:List Bool)(i:Nat)(s:List Nat):List Nat:=(List.range es.length).filter fun k=>Nat.beq k i||s.contains k
def eqL:List Nat->List Nat->Bool
 |[],[]=>true
 |a::s,b::t=>Nat.beq a b&&eqL s t
 |_,_=>false
def Va: ∀{s t:List Nat},eqL s t=true->s=t
 |[],[],_=>rfl
 |a::s,b::t,h=>by
  simp only [eqL,iX]at h;rw [zp h.1,Va h.2]
 |[],_::_,h=>by cases h
 |_::_,[],h=>by cases h
def Za:List (List Nat×((Nat->OI)->List OE))->List Nat->(Nat->OI)->List OE
 |[],_,_=>[]
 |p::r,s,σ=>bif eqL p.1 s then p.2 σ else Za r s σ
def GD{k:Nat}:k∈Nz es done↔es[k]? =some true/\done.getD k false=true:=by
 unfold Nz;rw [A4,List.mem_range,iX];constructor
 ·rintro⟨I,M,h3⟩;refine⟨?_,h3⟩;rw [qg I]at M ⊢;simpa using M
 ·rintro⟨I,M⟩;exact⟨(qS.1 I).1,by rw [I];rfl,M⟩
def YE{i:Nat}(h:es[i]? =some false):Nz es (done.setIfInBounds i true)=Nz es done:=by
 unfold Nz;refine Kp fun k hk=>?_;by_cases hik:i=k
 ·subst hik;rw [h];rfl
 ·rw [getD_set_ne false hik]
def aeA{i:Nat}(h:es[i]? =some true)(hs:i<done.size):Nz es (done.setIfInBounds i true)=acM es i (Nz es done):=by
 unfold acM
 conv=>lhs;unfold Nz
 refine Kp fun k hk=>?_;by_cases hik:i=k
 ·subst hik;simp [h,hs]
 ·rw [getD_set_ne false hik];have H:Nat.beq k i=false:=by
   cases H:Nat.beq k i with
   |false=>rfl
   |true=>exact absurd (zp H).symm hik
  rw [H,B6,ES,Rj,GD,iX];constructor
  ·rintro⟨I,M⟩;refine⟨?_,M⟩
   cases he:es[k]? with
   |none=>rw [he]at I;cases I
   |some b=>rw [he]at I;simpa using I
  ·rintro⟨I,M⟩;exact⟨by rw [I];rfl,M⟩
def KO:List Nat->List (List Nat)
 |[]=>[[]]
 |k::l=>(KO l).map (k:: ·)++KO l
def GV(es:List Bool):List Nat:=(List.range es.length).filter fun k=>(es[k]?).getD false
def C3(p:Nat->Bool): ∀l:List Nat,l.filter p∈KO l
 |[]=>mf.2 rfl
 |k::l=>by
  unfold KO;rw [qR];by_cases h:p k=true
  ·rw [Rm h];exact .inl (rL.2 ⟨_,C3 p l,rfl⟩)
  ·rw [Ks h];exact .inr (C3 p l)
def aba(es:List Bool)(done:Array Bool):Nz es done∈KO (GV es):=by
 have:Nz es done=(GV es).filter fun k=>done.getD k false:=by
  unfold Nz GV;rw [Iu];refine Kp fun k _=>Bool.and_comm ..
 rw [this];exact C3 _ _
def noE(L:List Oper)(es:List Bool)(i:Nat)(s:List Nat):Bool:=
 s.contains i||(GV es).any fun k=>if s.contains k then zC L L.length k i||(GV es).any fun j=> !s.contains j&&zC L L.length k j else zC L L.length i k
def TY(L:List Oper)(es:List Bool)(i:Nat)(aas:List (List Nat)):Bool:=(KO (GV es)).all fun s=>noE L es i s||aas.any fun a=>eqL a s
def TK{α:Type}(p:α->Prop):List α->Prop
 |[]=>True
 |a::l=>p a/\TK p l
def TK.mem{p:α->Prop}: ∀{l:List α},TK p l-> ∀a∈l,p a
 |_::_,⟨h,_⟩,_,.head _=>h
 |_::_,⟨_,h⟩,_,.tail _ hm=>TK.mem h _ hm
abbrev SsT:=List (List Nat×((Nat->OI)->List OE))
def DT(E:En)(G:pC)(L:List Oper)(ts:List TS)(Ss:SsT)(es0:List Bool):Nat->List Oper->List Bool->Prop
 |_,[],_=>True
 |i,o::rest,false::es=>(∃(needs:List NS) (t:TS) (aas:List (List Nat)),ts[i]? =some t/\Jm G ts needs/\(needs.all fun n=>wk L o i (n.at fun _=>tA))=true/\jZ i o=true/\ah1 L es0 i t=true/\TY L es0 i aas=true/\o.dst.isSome=true/\
   TK (fun s=> ∀σ,bF E (Za Ss s σ) L.toArray (IP needs σ) o (t.at σ)) aas)/\DT E G L ts Ss es0 (i+1) rest es
 |i,o::rest,true::es=>(∃(needs:List NS) (t:TS) (aas:List (List Nat×List Nat)),ts[i]? =some t/\Jm G ts needs/\(needs.all fun n=>wk L o i (n.at fun _=>tA))=true/\jZ i o=true/\ah1 L es0 i t=true/\TY L es0 i (aas.map (·.1))=true/\(aas.all fun p=>eqL (acM es0 i p.1) p.2)=true/\
   TK (fun p:List Nat×List Nat=> ∀σ,oy E L.toArray (Za Ss p.1 σ) (IP needs σ) o (fun x=>Za Ss p.2 (upd σ i x)) (fun x=>t.at (upd σ i x))) aas)/\DT E G L ts Ss es0 (i+1) rest es
 |_,_::_,[]=>False
variable{L:List Oper}{Ss:SsT}
def DT.get{ts:List TS}{es0:List Bool}: ∀(r:List Oper) (es:List Bool) (k:Nat),DT E G L ts Ss es0 k r es-> ∀(j:Nat) (o:Oper),r[j]? =some o->
    ∃e,es[j]? =some e/\ ∃(needs:List NS) (t:TS),ts[k+j]? =some t/\Jm G ts needs/\(needs.all fun n=>wk L o (k+j) (n.at fun _=>tA))=true/\jZ (k+j) o=true/\ah1 L es0 (k+j) t=true/\
      (match e with
       |false=>o.dst.isSome=true/\ ∃aas,TY L es0 (k+j) aas=true/\TK (fun s=> ∀σ,bF E (Za Ss s σ) L.toArray (IP needs σ) o (t.at σ)) aas
       |true=> ∃aas:List (List Nat×List Nat),TY L es0 (k+j) (aas.map (·.1))=true/\(aas.all fun p=>eqL (acM es0 (k+j) p.1) p.2)=true/\TK (fun p:List Nat×List Nat=> ∀σ,oy E L.toArray (Za Ss p.1 σ) (IP needs σ) o (fun x=>Za Ss p.2 (upd σ (k+j) x)) (fun x=>t.at (upd σ (k+j) x))) aas):=by
  intro r
  induction r with
  |nil=>intro es k _ j o h;simp at h
  |cons p r ih=>
    intro es k h j o ho
    cases es with
    |nil=>exact h.elim
    |cons e es=>
      cases e with
      |false=>
        obtain⟨⟨needs,t,aas,g1,g2,g3,g4,g5,g6,g7,g8⟩,M⟩:=h
        cases j with
        |zero=>
          simp at ho;subst ho;exact⟨false,rfl,needs,t,g1,g2,g3,g4,g5,g7,aas,g6,g8⟩
        |succ j=>
          obtain⟨e',g1,g2⟩:=ih es (k+1) M j o (by simpa using ho);refine⟨e',by simpa using g1,?_⟩;rw [show k+1+j=k+(j+1)from by omega]at g2;exact g2
      |true=>
        obtain⟨⟨needs,t,aas,g1,g2,g3,g4,g5,g6,g7,g8⟩,M⟩:=h
        cases j with
        |zero=>
          simp at ho;subst ho;exact⟨true,rfl,needs,t,g1,g2,g3,g4,g5,aas,g6,g7,g8⟩
        |succ j=>
          obtain⟨e',g1,g2⟩:=ih es (k+1) M j o (by simpa using ho);refine⟨e',by simpa using g1,?_⟩;rw [show k+1+j=k+(j+1)from by omega]at g2;exact g2
structure DJT(E:En)(G:pC)(l:List Oper)(ts:List TS)(Ss:SsT)(es:List Bool)(done:Array Bool)(a:Act)(w:World)(S:SH)(σ:Nat->OI):Prop where
 ext:kh E.B E.w0 E.S0 w S
 sat:nC w S
 own:dW E.base E.B w S (Za Ss (Nz es done) σ)
 size:a.tmps.size=E.N.n
 defers:a.defers=E.N.ds
 dsz:done.size=l.length
 down: ∀j o,l[j]? =some o->done.getD j false=true-> ∀e∈o.after,Region.binds .any e=true->done.getD e.on false=true
 old: ∀k t,cH G k=some t->(∀j o,l[j]? =some o->done.getD j false=true->o.dst≠some k)->t.p S (a.tmps.getD k undef)
 new: ∀j o d p,l[j]? =some o->done.getD j false=true->o.dst=some d->ts[j]? =some p->(p.at σ).p S (a.tmps.getD d undef)
 deps: ∀j p,done.getD j false=true->ts[j]? =some p-> ∀k∈p.1,done.getD k false=true
section
variable{ts:List TS}
def DJT.need{σ:Nat->OI}(h:DJT E G L ts Ss es done a w S σ){i:Nat}(hi:L[i]? =some o)(hun:done.getD i true=false)(hwait: ∀e∈o.after,Region.binds .any e=true->done.getD e.on false=true){needs:List NS}(I:Jm G ts needs)(M:(needs.all fun n=>wk L o i (n.at fun _=>tA))=true):du E.N S a (IP needs σ):=by
 have hlt:i<done.size:=by rw [h.dsz];exact(qS.1 hi).1
 have hun' :done.getD i false=false:=by
  simp [hlt]at hun ⊢;exact hun
 refine⟨h.size,h.defers,?_⟩;have key: ∀n∈needs,(n.ty σ).p S (a.tmps.getD n.slot undef):=by
  intro n hn;have hs:=mN.1 M n hn;have ho:=I.mem n hn;unfold wk NS.at at hs;unfold ae1 at ho
  cases hsrc:n.src with
  |some j=>
   rw [hsrc]at hs ho;simp only [iX]at hs;obtain⟨hs1,hs2⟩:=hs
   cases hj:L[j]? with
   |none=>rw [hj]at hs1;cases hs1
   |some p=>
    rw [hj]at hs1
    cases hd:p.dst with
    |none=>simp only [hd]at hs1;cases hs1
    |some d=>
     simp only [hd]at hs1;have hd' :=zp hs1;subst hd';have hdone:done.getD j false=true:=by
      unfold VF at hs2;obtain⟨e,he0,H⟩:=xI.1 hs2;have he:e∈o.after:=by simpa using he0
      simp only [iX]at H;have:=hwait e he H.2
      rwa [zp H.1]at this
     have hm:=ho σ
     cases hf:ts[j]? with
     |none=>rw [hf]at hm;simp at hm
     |some f=>
      rw [hf]at hm;have e:f.at σ=n.ty σ:=by simpa using hm
      rw [<-e];exact h.new j p n.slot f hj hdone hd hf
  |none=>
   rw [hsrc]at hs ho;refine h.old _ _ (ho σ) fun j p hj hdone hd=>?_;have:=mN.1 hs p (FS hj);simp only [hd,Nat.beq_refl,rM,B6]at this;unfold VF at this;obtain⟨e,he0,H⟩:=xI.1 this;have he:e∈p.after:=by simpa using he0
   simp only [iX]at H;have h3:=h.down j p hj hdone e he H.2;rw [zp H.1]at h3;rw [h3]at hun';cases hun'
 clear I M;intro k t hk;unfold IP at hk
 induction needs with
 |nil=>simp [oO,cH]at hk
 |cons n needs ih=>
  simp only [va]at hk;unfold oO cH at hk;by_cases H:Nat.beq n.slot k=true
  ·have hb' :Nat.beq (n.at σ).slot k=true:=H;rw [hb']at hk;have:=zp H;subst this;have h9:some (n.at σ).ty=some t:=by simpa using hk
   have e:n.ty σ=t:=vc h9;rw [<-e];exact key n (md ..)
  ·rw [yE]at H;have hb' :Nat.beq (n.at σ).slot k=false:=H;rw [hb']at hk;exact ih (fun m hm=>key m (ma _ hm)) hk
def DJT.step{w' :World}{σ σ' :Nat->OI}(h:DJT E G L ts Ss es done a w S σ){i:Nat}{p0:TS}{C:Nat->Prop}(hi:L[i]? =some o)(hdN: ∀d,o.dst=some d->d<E.N.n)(hs2: ∀d,o.dst=some d-> ∀j p,L[j]? =some p->done.getD j false=true->p.dst=some d->i=j)(hwait: ∀e∈o.after,Region.binds .any e=true->done.getD e.on false=true)(J:ts[i]? =some p0)(hun:done.getD i true=false)(hdep: ∀k∈p0.1,k=i\/done.getD k false=true)(hext:kh C w S w' S')(hC: ∀b,C b->E.base<=b\/E.B b)(hsat:nC w' S')(hown:dW E.base E.B w' S' (Za Ss (Nz es (done.setIfInBounds i true)) σ'))(hσ: ∀k,k≠i->σ' k=σ k)(hv:(p0.at σ').p S' v):
  DJT E G L ts Ss es (done.setIfInBounds i true) (a.put o.dst v) w' S' σ' :=by
 have hlt:i<done.size:=by rw [h.dsz];exact(qS.1 hi).1
 have hset: ∀j,(done.setIfInBounds i true).getD j false=true->j=i\/done.getD j false=true:=fun j hj=>by
  by_cases hij:i=j
  ·exact .inl hij.symm
  ·rw [getD_set_ne false hij]at hj;exact .inr hj
 have hseti:(done.setIfInBounds i true).getD i false=true:=by simp [hlt]
 have hun' :done.getD i false=false:=by simp [hlt]at hun ⊢;exact hun
 have hput: ∀k,(∀d,o.dst=some d->d≠k)->(a.put o.dst v).tmps.getD k undef=a.tmps.getD k undef:=fun k hk=>by
  cases hd:o.dst with
  |none=>rfl
  |some d=>
   have hda:d<a.tmps.size:=by rw [h.size];exact hdN d hd
   rw [VV hda,aR (hk d hd)]
 refine⟨h.ext.step hext hC,hsat,hown,?_,?_,by simp [h.dsz],fun j p hj hdone e he H=>?_,fun k u hk hno=>?_,fun j p d' u hj hdone hd' hu=>?_,fun j u hj hu k hk=>?_⟩
 ·cases o.dst with
  |none=>exact h.size
  |some d=>simp [Act.put,h.size]
 ·cases o.dst with
  |none=>exact h.defers
  |some d=>exact h.defers
 ·rcases hset j hdone with rfl|hj'
  ·rw [hi]at hj;have:o=p:=by simpa using hj
   subst this;exact getD_set_true (hwait e he H)
  ·exact getD_set_true (h.down j p hj hj' e he H)
 ·rw [hput k fun d hd e=>hno i o hi hseti (by rw [hd,e])];exact u.mono hext.keep (h.old k u hk fun j p hj hdone=>hno j p hj (getD_set_true hdone))
 ·by_cases hij:j=i
  ·subst hij;rw [hi]at hj;have:o=p:=by simpa using hj
   subst this;have hda:d' <a.tmps.size:=by rw [h.size];exact hdN d' hd'
   rw [hd',VV hda,bz rfl];rw [J]at hu;have:p0=u:=by simpa using hu
   subst this;exact hv
  ·have hj' :=(hset j hdone).resolve_left hij;rw [hput d' fun d hd e=>by subst e;exact hij (hs2 d hd j p hj hj' hd').symm];have e1:u.at σ' =u.at σ:=congrArg u.2 (ET fun k hk=>hσ k fun e=>by
     subst e;rw [h.deps j u hj' hu k hk]at hun';cases hun')
   rw [e1];exact Ty.mono _ hext.keep (h.new j p d' u hj hj' hd' hu)
 ·rcases hset j hj with rfl|hj'
  ·rw [J]at hu;have:p0=u:=by simpa using hu
   subst this;rcases hdep k hk with rfl|h'
   ·exact hseti
   ·exact getD_set_true h'
  ·exact getD_set_true (h.deps j u hj' hu k hk)
end
def Rs{l t:List Oper}{ts:List TS}(hsl:Cz E.N.n [] l=true)(hlen:ts.length=l.length)(hesl:es.length=l.length)(hd:DT E G (l++t) ts Ss es 0 l es)(J:VL (l++t) l.length t.length=true)(hQ: ∀a w S σ,St E (Za Ss (GV es) σ) (Nu l (tsS ts σ) G) a w S->wpListIn (fw E.r) 0 E.P (l++t).toArray tD t a w):
  ∀(fuel:Nat) (done:Array Bool) (a:Act) (w:World) (S:SH) (σ:Nat->OI),zZ done=fuel->(∀j,l.length<=j->done.getD j false=false)->DJT E G (l++t) ts Ss es done a w S σ->wpAnyIn (fw E.r) 0 E.P .any (l++t).toArray tD fuel done a w:=by
 have hL1: ∀i o,i<l.length->(l++t)[i]? =some o->l[i]? =some o:=fun i o hi h=>by rwa [EU hi]at h
 have hL2: ∀i o,l[i]? =some o->(l++t)[i]? =some o:=fun i o h=>by rw [EU (qS.1 h).1];exact h
 have htail: ∀m o,l.length<=m->(l++t)[m]? =some o->Mw (l++t) m=true/\jZ m o=true:=fun m o hm ho=>by
  have hml:m<(l++t).length:=(qS.1 ho).1;rw [lj]at hml;unfold VL at J;have:=mN.1 J (m-l.length) (by simp;omega);rw [show l.length+(m-l.length)=m from by omega,ho]at this;simp only [iX]at this;exact⟨this.1,this.2.1⟩
 have hget:=fun i o (hi:l[i]? =some o)=>DT.get l es 0 hd i o hi;have hedge: ∀i o,(l++t)[i]? =some o->jZ i o=true:=fun i o hi=>by
  rcases wN i l.length with h|h
  ·obtain⟨_,_,_,_,_,_,_,h,_⟩:=hget i o (hL1 i o h hi);simpa using h
  ·exact(htail i o h hi).2
 obtain⟨hs1,hs2⟩:=RE l [] hsl;have fin: ∀fuel done a w S σ,zZ done=fuel->(∀j,l.length<=j->done.getD j false=false)->DJT E G (l++t) ts Ss es done a w S σ->(∀i,i<l.length->done.getD i false=true)->wpAnyIn (fw E.r) 0 E.P .any (l++t).toArray tD fuel done a w:=by
  intro fuel done a w S σ hu hfree h hall;have hdn:Nz es done=GV es:=by
   unfold Nz GV;refine Kp fun k hk=>?_;rw [hall k (by rw [<-hesl];exact List.mem_range.1 hk),Cj]
  have hown:=h.own;rw [hdn]at hown;refine TX (n:=l.length) (fun m o hm ho=>(htail m o hm ho).1) hedge t l.length done fuel a w (kG _) (by simp) h.dsz (fun j hj=>⟨fun hjd=>?_,fun hlt=>hall j hlt⟩) hu
   (hQ a w S σ ⟨h.ext,h.sat,hown,h.size,h.defers,fun j u hj=>?_⟩)
  ·rcases wN j l.length with h' |h'
   ·exact h'
   ·rw [hfree j h']at hjd;cases hjd
  ·rcases Yn l (tsS ts σ) j u (by unfold tsS;rw [Am];exact hlen) hj with⟨i,o,I,M,h3⟩|⟨I,M⟩
   ·unfold tsS at h3;rw [Co]at h3
    cases hf:ts[i]? with
    |none=>rw [hf]at h3;simp at h3
    |some f=>
     rw [hf]at h3;have e:f.at σ=u:=by simpa using h3
     rw [<-e];exact h.new i o j f (hL2 i o I) (hall i (qS.1 I).1) M hf
   ·refine h.old j u I fun i o ho hdn=>?_;rcases wN i l.length with h' |h'
    ·exact M o (FS (hL1 i o h' ho))
    ·rw [hfree i h']at hdn;cases hdn
 have lower: ∀done a w S σ i,(∀j,l.length<=j->done.getD j false=false)->DJT E G (l++t) ts Ss es done a w S σ->i∈Region.ready .any (l++t).toArray done->l.length<=i-> ∀j,j<l.length->done.getD j false=true:=by
  intro done a w S σ i hfree h hi hge j hj;obtain⟨hun,p,hp,hwait⟩:=mem_ready.1 hi;have hp' :(l++t)[i]? =some p:=by simpa using hp
  have hcov:=(htail i p hge hp').1;unfold Mw at hcov;have hre:=mN.1 hcov j (by simp;omega);exact qw h.down _ i j (fun q hq e he H=>by
   have:q=p:=by rw [hp']at hq;simpa using hq.symm
   subst this;exact hwait e he H) hre
 intro fuel
 induction fuel with
 |zero=>
  intro done a w S σ hu hfree h;exact fin 0 done a w S σ hu hfree h fun i hi=>IC hu (by rw [h.dsz,lj];omega)
 |succ fuel ih=>
  intro done a w S σ hu hfree h;by_cases hall: ∀i,i<l.length->done.getD i false=true
  ·exact fin _ done a w S σ hu hfree h hall
  have hready0: ∀m i,i<m->i<l.length->Region.ready .any (l++t).toArray done=[]->done.getD i false=true:=by
   intro m
   induction m with
   |zero=>intro i h;omega
   |succ m ihm=>
    intro i him hil hr;have his:i<done.size:=by rw [h.dsz,lj];omega
    by_cases hdn:done.getD i true=true
    ·rw [<-yw his];exact hdn
    ·exfalso;obtain⟨o,ho⟩: ∃o,(l++t)[i]? =some o:=⟨l[i],hL2 i _ (qg hil)⟩;have hmem:i∈Region.ready .any (l++t).toArray done:=by
      rw [mem_ready];refine⟨by simpa using hdn,o,by simpa using ho,fun e he H=>?_⟩;have:=hedge i o ho;unfold jZ at this;have:=mN.1 this e (by simpa using he);simp only [H,rM,B6,Aq]at this;exact ihm e.on (by omega) (by omega) hr
     rw [hr]at hmem;cases hmem
  refine⟨fun hr=>absurd (fun i hi=>hready0 (i+1) i (by omega) hi hr) hall,fun i hi=>?_⟩;have hil:i<l.length:=by
   rcases wN i l.length with h' |h'
   ·exact h'
   ·exact absurd (lower done a w S σ i hfree h hi h') hall
  obtain⟨hun,o,ho,hwait⟩:=mem_ready.1 hi;have ho' :(l++t)[i]? =some o:=by simpa using ho
  have hol:=hL1 i o hil ho';obtain⟨e,he,needs,u,I,M,h3,_,h4,h5⟩:=hget i o hol;rw [u9]at I h3 h4;have hF:=h.need ho' hun hwait M h3;have his:i<done.size:=by rw [h.dsz,lj];omega
  have hun' :done.getD i false=false:=by rw [<-yw his];exact hun
  have hu' :zZ (done.setIfInBounds i true)=fuel:=by have:=KK hun;omega
  have huq: ∀d,o.dst=some d-> ∀j p,(l++t)[j]? =some p->done.getD j false=true->p.dst=some d->i=j:=fun d hdd j p hj hjd hpd=>by
   rcases wN j l.length with h' |h'
   ·exact hs2 i j o p d hol (hL1 j p h' hj) hdd hpd
   ·rw [hfree j h']at hjd;cases hjd
  have hfree' : ∀j,l.length<=j->(done.setIfInBounds i true).getD j false=false:=fun j hj=>by
   rw [getD_set_ne false (by omega)];exact hfree j hj
  have hbl:E.base<=w.heap.size:=h.ext.size;have hwaits: ∀q,(l++t)[i]? =some q-> ∀e∈q.after,Region.binds .any e=true->done.getD e.on false=true:=fun q hq e he H=>by
   have:q=o:=by rw [ho']at hq;simpa using hq.symm
   subst this;exact hwait e he H
  have hdpp: ∀k∈u.1,k=i\/done.getD k false=true:=fun k hk=>by
   have:=mN.1 h4 k hk;simp only [iX,xv]at this;rcases this.2 with H|H
   ·exact .inl (zp H)
   ·exact .inr (qw h.down _ i k hwaits H)
  have hdNN: ∀d,o.dst=some d->d<E.N.n:=fun d hd=>(hs1 o (FS hol) d hd).1;unfold wpOpIn;rw [ho];show if _ then _ else _;have hpos:noE (l++t) es i (Nz es done)=false:=by
   rw [zW];intro hno;unfold noE at hno;rw [xv]at hno;rcases hno with hc|hc
   ·have:=(GD.1 (Rj.1 hc)).2;rw [this]at hun';cases hun'
   ·obtain⟨k,hk1,hk2⟩:=xI.1 hc;have hke:es[k]? =some true:=by
     unfold GV at hk1;rw [A4,List.mem_range]at hk1;have h7:=hk1.2;rw [qg hk1.1]at h7 ⊢;simpa using h7
    by_cases hin:(Nz es done).contains k=true
    ·rw [bz hin,xv]at hk2;have hkd:=(GD.1 (Rj.1 hin)).2;rcases hk2 with H|H
     ·have:=qw h.down _ k i (fun q hq e he H=>h.down k q hq hkd e he H) H;rw [this]at hun';cases hun'
     ·obtain⟨j,hj1,hj2⟩:=xI.1 H;rw [iX,Hh]at hj2;have hje:es[j]? =some true:=by
       unfold GV at hj1;rw [A4,List.mem_range]at hj1;have h7:=hj1.2;rw [qg hj1.1]at h7 ⊢;simpa using h7
      have hjd:=qw h.down _ k j (fun q hq e he H=>h.down k q hq hkd e he H) hj2.2;have:=Rj.2 (GD.2 ⟨hje,hjd⟩);rw [hj2.1]at this;cases this
    ·rw [aR hin]at hk2;have hkd:=qw h.down _ i k hwaits hk2;exact hin (Rj.2 (GD.2 ⟨hke,hkd⟩))
  have hwin: ∀aas:List (List Nat),TY (l++t) es i aas=true->Nz es done∈aas:=by
   intro aas hw;unfold TY at hw;have:=mN.1 hw _ (aba es done);rw [hpos,B6]at this;obtain⟨b,hb1,hb2⟩:=xI.1 this;rw [<-Va hb2];exact hb1
  cases e with
  |false=>
   simp only at h5;obtain⟨hdS,aas,hw,h5⟩:=h5;rw [u9]at hw;obtain⟨d,hdd⟩:=Rn.1 hdS;have h6:=h5.mem _ (hwin aas hw) σ a w S h.sat h.own hF;have hdq:=YE (done:=done) he;by_cases hw:Region.wanted o (yielded (l++t).toArray a.tmps)=true
   ·rw [bz hw]at h6 ⊢;refine xJ (fun a' w' ⟨v,S',ha,V,hs,hv⟩=>?_) h6;subst ha;exact ih _ _ _ S' _ hu' hfree' (h.step ho' hdNN huq hwait I hun hdpp V (fun _ H=>H.elim) hs (by rw [hdq];exact h.own.ext0 V) (fun _ _=>rfl) hv)
   ·rw [aR hw]at h6 ⊢;exact⟨fun _ _=>trivial,ih _ _ _ S _ hu' hfree' (h.step ho' hdNN huq hwait I hun hdpp (kh.refl vz _ _) (fun _ H=>H.elim) h.sat (by rw [hdq];exact h.own) (fun _ _=>rfl) h6)⟩
  |true=>
   simp only [u9]at h5;obtain⟨aas,hw,hins,h5⟩:=h5;obtain⟨p,hp1,hp2⟩:=rL.1 (hwin _ hw);have hp3:=Va (mN.1 hins p hp1);have h6:=h5.mem p hp1 σ a w S h.sat (by rw [hp2];exact h.own) hF hbl;have hdq:Nz es (done.setIfInBounds i true)=p.2:=by rw [aeA he his,<-hp2,hp3]
   by_cases hw:Region.wanted o (yielded (l++t).toArray a.tmps)=true
   ·rw [bz hw]at h6 ⊢;refine xJ (fun a' w' ⟨v,S',x,ha,V,hs,hown,hv⟩=>?_) h6;subst ha;exact ih _ _ _ S' _ hu' hfree' (h.step ho' hdNN huq hwait I hun hdpp V (fun b ⟨f,hf,H⟩=>(dW.mem h.own f (by rw [<-hp2];exact hf)).2 b H) hs (by rw [hdq];exact hown) (fun k hk=>Zh σ x hk) hv)
   ·rw [aR hw]at h6 ⊢;obtain⟨x,hown,hv⟩:=h6;exact⟨fun _ _=>trivial,ih _ _ _ S _ hu' hfree' (h.step ho' hdNN huq hwait I hun hdpp (kh.refl vz _ _) (fun _ H=>H.elim) h.sat (by rw [hdq];exact hown) (fun k hk=>Zh σ x hk) hv)⟩
def jQ{id:Nat}(m:Nat)(ts:List TS)(es:List Bool)(Ss:SsT)(hO: ∀σ,Za Ss [] σ=O)(hm:E.P.follows .mixedOrders=true)(hsl:Cz E.N.n [] (L.take m)=true)(hlen:ts.length=(L.take m).length)(hesl:es.length=(L.take m).length)(J:VL L (L.take m).length (L.drop m).length=true)(hd:DT E G L ts Ss es 0 (L.take m) es)(k: ∀σ:Nat->OI,RG E L.toArray tD (L.drop m) (Za Ss (GV es) σ) (Nu (L.take m) (tsS ts σ) G)):CG E tD (.region id L.toArray true) O G:=fun a w S st=>by
 have hL:L=L.take m++L.drop m:=(A8 m L).symm;generalize L.take m=l at hL hsl hlen hesl J hd k;generalize L.drop m=t at hL J k;subst hL;refine wpIn_region_any hm ?_;obtain⟨he,hs⟩:=TG (w:=w) st.sat;have hdn0:Nz es (Array.replicate (l++t).toArray.size false)=[]:=by
  unfold Nz;refine Iy.2 fun k hk=>?_;simp [Ro];intro _;split<;>simp
 refine Rs hsl hlen hesl hd J (fun a w S σ st=>k σ a w S st) _ _ _ _ S (fun _=>tA) ?_ (fun j _=>?_)
  ⟨st.ext.step0 he,hs,by rw [hdn0,hO];exact st.own.ext0 he,st.facts.size,st.facts.defers,by simp,fun j o hj hdone=>?_,fun k t hk _=>st.facts.at_ k t hk,fun j o d t hj hdone=>?_,fun j p hdone=>?_⟩
 ·unfold zZ;rw [Array.toList_replicate,List.countP_replicate];simp
 ·simp [Ro];split<;>rfl
 ·simp [Ro]at hdone;split at hdone<;>simp at hdone
 ·simp [Ro]at hdone;split at hdone<;>simp at hdone
 ·simp [Ro]at hdone;split at hdone<;>simp at hdone
def dW.perm(h:O.Perm O'):dW base B w S O->dW base B w S O' :=by
 induction h with
 |nil=>exact id
 |cons x p ih=>
  rintro⟨I,M,h3⟩;exact⟨I,fun f hf=>M f (p.mem_iff.2 hf),ih h3⟩
 |swap x y l=>
  rintro⟨I,M,h3,h4,h5⟩;refine⟨h3,fun f hf k hk hfk=>?_,I,fun f hf=>M f (ma _ hf),h5⟩;rcases iW.1 hf with rfl|hf
  ·exact M x (md ..) k hfk hk
  ·exact h4 f hf k hk hfk
 |trans _ _ ih1 ih2=>exact fun k=>ih2 (ih1 k)
def zD(O:List OE):List Nat->List OE
 |[]=>[]
 |i::l=>match O[i]? with
  |some e=>e::zD O l
  |none=>zD O l
def Gu(O:List OE): ∀a b:List Nat,zD O (a++b)=zD O a++zD O b
 |[],_=>rfl
 |i::a,b=>by
  simp only [B7,zD];split<;>simp [Gu O a b]
def Ut{a b:List Nat}(h:a.Perm b):(zD O a).Perm (zD O b):=by
 induction h with
 |nil=>exact .nil
 |cons x p ih=>
  simp only [zD];split
  ·exact .cons _ ih
  ·exact ih
 |swap x y l=>
  simp only [zD];cases V:O[x]? <;>cases hy:O[y]? <;>simp<;>exact .swap ..
 |trans _ _ ih1 ih2=>exact ih1.trans ih2
def R2(O:List OE):zD O (List.range O.length)=O:=by
 have key: ∀n,n<=O.length->zD O (List.range n)=O.take n:=by
  intro n
  induction n with
  |zero=>intro _;rfl
  |succ n ih=>
   intro h;rw [List.range_succ,Gu,ih (by omega)];simp only [zD];rw [qg (by omega),TR (by omega)]
 rw [key _ (kG _),DZ]
def dW.pick(l:List Nat)(hl:l.isPerm (List.range O.length)=true)(h:dW base B w S O):dW base B w S (zD O l):=
 h.perm (by
  have:=Ut (O:=O) (List.isPerm_iff.1 hl);rw [R2]at this;exact this.symm)
def KW{xs:List β}{v:β}{i:Int}(hi:0<=i/\i<(n:Int)):uZ (tE q n) (tE q n) (i.toNat*q.sz) q xs v (xs.set i.toNat v):=fun S cs ds ⟨I,M⟩ hd=>
 ⟨by rw [NQ];exact I,Gs hd M (by omega)⟩
section
def rD{l:Option Nat}{o:Nat}{y:α}{j:Int}{p:Operand}(hm:pw mm r U l cap xs∈O)(hy:cO xs j=some y)(hp:be E.N G p (tV (nc l o))):
  cu E O G ⟨dst,.nilCheck p,ty,pos,after,g⟩ (tV (nc l o)):=
 .of_pure fun a w S _ ho hF=>by
  have I:a.eval p=nc l o:=hp S a hF;obtain⟨_,hy'⟩:=m7 hy;obtain⟨b,cur,rfl,_⟩:=wZ (ho.mem _ hm).1 hy';exact⟨nc (some b) o,by simp [execOp,I,nc,aE],rfl⟩
end
open Go.ChangeShapes Go.WideShapes Go.ChangeAt
variable{hb:Type}{W:World}{enc:TypeId×Value->hb}
section
def Sp(W:World):SH:=fun b=>W.heap[b]?
def agA(W:World)(hg: ∀p∈glob,∃c aj fr,W.heap[p.1]? =some (.cells c aj fr)/\c.toList.take p.2.length=p.2)(J: ∀w' :World,(∀(b:Nat) (o:Obj),W.heap[b]? =some o-> ∃o',w'.heap[b]? =some o' /\Sb o o')->aiL w'):nC W (Sp W):=⟨fun _ o h=>⟨o,h,yX o⟩,hg,J⟩
def Ei(enc:TypeId×Value->hb)(P:Program)(W:World){α:Type}(t:TypeId)(r:Rp α):Prop:=
 P.cellsOf t=r.sz/\ ∀fuel cs x,DataW.trod enc P W 0 (fun _=>true) true fuel t cs=some x-> ∃y,r.rc (Sp W) cs y
def Zm(h:P.underlying t=some .bool)(hc:P.cellsOf t=1):Ei enc P W t rB:=⟨hc,fun fuel cs x V=>by
 cases fuel with
 |zero=>simp [DataW.trod]at V
 |succ n=>
  unfold DataW.trod at V;rw [h]at V;split at V;all_goals try (injections;done)
  ·exact⟨_,rfl⟩⟩
def AJ{α β:Type}{f:α->Option β}: ∀{l:List α} {r:List β},l.mapM f=some r->r.length=l.length/\ ∀(i:Nat) (x:α),l[i]? =some x-> ∃y,r[i]? =some y/\f x=some y
 |[],r,h=>by
  simp at h;subst h;exact⟨rfl,fun i x V=>by simp at V⟩
 |a::l,r,h=>by
  rw [List.mapM_cons]at h
  cases hf:f a with
  |none=>rw [hf]at h;simp at h
  |some b=>
   rw [hf]at h
   cases hm:l.mapM f with
   |none=>rw [hm]at h;simp at h
   |some r' =>
    rw [hm]at h;simp at h;subst h;obtain⟨I,M⟩:=AJ hm;refine⟨by simp [I],fun i x V=>?_⟩
    cases i with
    |zero=>simp at V;subst V;exact⟨b,rfl,hf⟩
    |succ i=>exact M i x (by simpa using V)
def H8{a:Addr}(h:W.cell? a=some v):a.spot=none/\ ∃c E fr,W.heap[a.block]? =some (.cells c E fr)/\c[a.off]? =some v:=by
 unfold World.cell? at h
 cases ho:W.heap[a.block]? with
 |none=>rw [ho]at h;cases h
 |some o=>
  rw [ho]at h
  cases o with
  |cells c E fr=>
   simp only at h;by_cases hs:a.spot.isSome=true
   ·rw [bz hs]at h;cases h
   ·rw [aR hs]at h;exact⟨by cases hq:a.spot with
     |none=>rfl
     |some s=>rw [hq]at hs;simp at hs,c,E,fr,rfl,h⟩
  |_=>simp at h
def O9(a:Addr):a.add 0=a:=by unfold Addr.add;rfl
def Vm{cs:List Value}(h:W.cells? 0 ⟨b,off,none⟩ n=some cs)(hn:0<n): ∃c E fr,W.heap[b]? =some (.cells c E fr)/\cs=(c.toList.drop off).take n:=by
 unfold World.cells? at h;rw [bz (nh _)]at h;obtain⟨I,M⟩:=AJ h;obtain⟨v,_,hv⟩:=M 0 0 (by simp [hn]);obtain⟨_,c,E,fr,h3,h4⟩:=H8 hv;refine⟨c,E,fr,by simpa [Addr.add] using h3,?_⟩;apply Kq;intro i;have hl:cs.length=n:=by simpa using I
 by_cases hi:i<n
 ·obtain⟨v,h5,h6⟩:=M i i (by simp [hi]);obtain⟨_,c',E',fr',h7,h8⟩:=H8 h6;rw [nf]at h7 h8;have h7' :W.heap[b]? =some (.cells c' E' fr'):=h7;have h3' :W.heap[b]? =some (.cells c E fr):=by simpa [Addr.add] using h3
  rw [h3']at h7';injection h7' with h7';injection h7' with e1;subst e1;rw [h5,D1 hi,A7];simpa using h8.symm
 ·rw [Ki (by omega),Ki (by simp;omega)]
def XR{q:Rp α}{len:Nat}{a:Addr}{x:DataW hb×List MemPlace}(h0' :0<q.sz)(hq:Ei enc P W e q)(V:(let elemAt (i:Nat):Option (DataW hb×List MemPlace):=(W.cells? 0 (a.add (i*P.cellsOf e)) (P.cellsOf e)).bind (DataW.trod enc P W 0 (fun _=>true) true n e)
   if 0<=a.block/\len<=cap/\cap<=maxLen then
    ((List.range len).mapM elemAt).bind fun elems=>
     (if(fun _=>true) a.block then(List.range (cap-len)).mapM fun j=>elemAt (len+j)else some []).map fun rest=>
      (DataW.slice (elems.map (·.1)) (rest.map (·.1)),MemPlace.row a ((elems.length+rest.length)*P.cellsOf e)++(elems++rest).flatMap (·.2))
   else none)=some x): ∃y,(gM q).rc (Sp W) [.slice (some a) len cap] y:=by
 simp only at V;split at V
 ·rename_i hcond;obtain⟨_,hle,hmax⟩:=hcond
  cases hm:(List.range len).mapM (fun i=>(W.cells? 0 (a.add (i*P.cellsOf e)) (P.cellsOf e)).bind (DataW.trod enc P W 0 (fun _=>true) true n e))with
  |none=>rw [hm]at V;simp at V
  |some elems=>
   obtain⟨hm1,hm2⟩:=AJ hm;rw [hq.1]at hm2;by_cases hl0:len=0
   ·subst hl0;exact⟨[],some a,cap,rfl,nh _,hmax,.inl rfl⟩
   have hsp0:a.spot=none:=by
    obtain⟨z,_,hz⟩:=hm2 0 0 (by rw [List.getElem?_range (by omega)]);rw [Nat.zero_mul,O9]at hz
    cases hcs:W.cells? 0 a q.sz with
    |none=>rw [hcs]at hz;simp at hz
    |some cs1=>
     unfold World.cells? at hcs;rw [bz (nh _)]at hcs;obtain⟨_,g2⟩:=AJ hcs;obtain⟨v,_,hv⟩:=g2 0 0 (by simp [h0']);rw [O9]at hv;exact(H8 hv).1
   have hcell: ∀i,i<len-> ∃c E fr,a.spot=none/\W.heap[a.block]? =some (.cells c E fr)/\ ∃y,q.rc (Sp W) ((c.toList.drop (a.off+i*q.sz)).take q.sz) y:=by
    intro i hi;obtain⟨z,_,hz⟩:=hm2 i i (by simp [hi])
    cases hcs:W.cells? 0 (a.add (i*q.sz)) q.sz with
    |none=>rw [hcs]at hz;simp at hz
    |some cs1=>
     rw [hcs]at hz;have hsp:a.spot=none:=hsp0;obtain⟨ab,ao,az⟩:=a;simp only at hsp;subst hsp;rw [nf]at hcs;obtain⟨c,E,fr,g1,g2⟩:=Vm hcs h0';obtain⟨y,hy⟩:=hq.2 n cs1 z hz;exact⟨c,E,fr,rfl,g1,y,by rw [<-g2];exact hy⟩
   obtain⟨c,E,fr,hsp,H,_⟩:=hcell 0 (by omega);have key: ∀m,m<=len-> ∃ys:List α,ys.length=m/\xX q (Sp W) ((c.toList.drop a.off).take (m*q.sz)) ys:=by
    intro m
    induction m with
    |zero=>intro _;exact⟨[],rfl,by simp [xX]⟩
    |succ m ih=>
     intro hm';obtain⟨ys,hy1,hy2⟩:=ih (by omega);obtain⟨c',E',fr',_,hb',y,hy⟩:=hcell m (by omega);rw [H]at hb';injection hb' with hb';injection hb' with e1;subst e1;refine⟨ys++[y],by simp [hy1],?_⟩;have hsplit:(c.toList.drop a.off).take ((m+1)*q.sz)=(c.toList.drop a.off).take (m*q.sz)++(c.toList.drop (a.off+m*q.sz)).take q.sz:=by
      rw [vg,Nat.one_mul,List.take_add,uf]
     rw [hsplit];exact Bs hy2 (Uq.2 hy)
   obtain⟨ys,hy1,hy2⟩:=key len (kG _);obtain⟨ab,ao,az⟩:=a;simp only at hsp;subst hsp;exact⟨ys,some ⟨ab,ao,none⟩,cap,by rw [hy1],by omega,hmax,.inr ⟨ab,ao,c,E,fr,rfl,H,by rw [hy1];exact hy2⟩⟩
 ·cases V
def s0{q:Rp α}(h:P.underlying t=some (.slice e))(hc:P.cellsOf t=1)(h0:Nat.blt 0 q.sz=true)(hq:Ei enc P W e q):Ei enc P W t (gM q):=⟨hc,fun fuel cs x V=>by
 have h0' :0<q.sz:=by simpa [Aq] using h0
 cases fuel with
 |zero=>simp [DataW.trod]at V
 |succ n=>
  unfold DataW.trod at V;rw [h]at V;split at V;all_goals try (injections;done)
  ·exact⟨[],none,0,rfl,kG _,nh _,.inl rfl⟩
  ·rename_i e' a len cap heq;injection heq with e1;injection e1 with e1;subst e1;exact XR h0' hq V⟩
def ae3(enc:TypeId×Value->hb)(P:Program)(W:World){α:Type}(off:Nat)(l:List (TypeId×Nat))(r:Rp α):Prop:=
 ∀(fuel:Nat) (cs:List Value),cs.length=off+r.sz->(∀f∈l,∃x,DataW.trod enc P W 0 (fun _=>true) true fuel f.1 ((cs.drop f.2).take (P.cellsOf f.1))=some x)-> ∃y,r.rc (Sp W) (cs.drop off) y
def xa{t:Nat}(h:Ei enc P W t r):ae3 enc P W off [(t,off)] r:=fun fuel cs hl V=>by
 obtain⟨x,V⟩:=V _ (List.mem_singleton_self _);simp only at V;rw [h.1,rO (by simp;omega)]at V;exact h.2 _ _ _ V
def jn{p:Rp α}{t off' :Nat}{l:List (TypeId×Nat)}(h:Ei enc P W t p)(ho:off' =off+p.sz)(hr:ae3 enc P W off' l q):ae3 enc P W off ((t,off)::l) (dD p q):=fun fuel cs hl V=>by
 subst ho;obtain⟨x,Z'⟩:=V _ (md ..);simp only at Z';rw [h.1]at Z';obtain⟨y,hy⟩:=h.2 _ _ _ Z';obtain⟨z,hz⟩:=hr fuel cs (by rw [hl];show off+(p.sz+q.sz)=_;omega) fun f hf=>V f (ma _ hf);exact⟨(y,z),_,_,by rw [<-uf];exact(A8 _ _).symm,hy,hz⟩
def rZ{l:List (TypeId×Nat)}{p:Rp α}{f:β->α}(J:(P.underlying t).map (fun d=>match d with| .struct l=>(true,l.toList.map fun f=>(f.type,f.offset))|_=>(false,[]))=some (true,l))(hc:P.cellsOf t=p.sz)(hf: ∀y,∃x,f x=y)(hl:ae3 enc P W 0 l p):Ei enc P W t (sr p f):=⟨hc,fun fuel cs x V=>by
 obtain⟨fs,I,M⟩: ∃fs,P.underlying t=some (.struct fs)/\fs.toList.map (fun f=>(f.type,f.offset))=l:=by
  cases hu:P.underlying t with
  |none=>rw [hu]at J;cases J
  |some d=>
   rw [hu]at J;cases d<;>simp at J;exact⟨_,rfl,J⟩
 cases fuel with
 |zero=>simp [DataW.trod]at V
 |succ n=>
  unfold DataW.trod at V;rw [I]at V;change (if cs.length=P.cellsOf t then(fs.toList.mapM fun f=>DataW.trod enc P W 0 (fun _=>true) true n f.type ((cs.drop f.offset).take (P.cellsOf f.type))).map (fun xs=>(DataW.agg (xs.map (·.1)),xs.flatMap (·.2)))else none)=some x at V;split at V
  ·rename_i hlen
   cases hm:fs.toList.mapM (fun f=>DataW.trod enc P W 0 (fun _=>true) true n f.type ((cs.drop f.offset).take (P.cellsOf f.type)))with
   |none=>rw [hm]at V;simp at V
   |some r=>
    obtain⟨_,hm2⟩:=AJ hm;obtain⟨y,hy⟩:=hl n cs (by rw [hlen,hc];omega) (fun g hg=>by
     rw [<-M,rL]at hg;obtain⟨f0,hf0,rfl⟩:=hg;obtain⟨i,hi⟩:=List.getElem?_of_mem hf0;obtain⟨z,_,hz⟩:=hm2 i f0 hi;exact⟨z,hz⟩)
    obtain⟨x',hx'⟩:=hf y;refine⟨x',?_⟩;show p.rc _ cs (f x');rw [hx'];simpa using hy
  ·cases V⟩
def QQ{W' :World}(h:kh vz W S W' S'):Below W.heap.size W W' :=⟨h.os,h.tape,h.output,h.size,fun k hk=>h.heap k hk (fun h=>h)⟩
def Ew(hl:laidOutB P=true){W W' :World}(H:Below W.heap.size W W'){sp:Nat->Bool}: ∀{ts:List TypeId} {vs:List Value} {ds:List (DataW hb)} {ps:List MemPlace},(∀t∈ts,P.readableRec t=true/\t<P.types.size)->
  DataW.TrodAll enc P W 0 (fun _=>true) true ts vs ds ps->(∀p∈ps,p.block<W.heap.size)->(∀p∈ps,sp p.block=true)->DataW.TrodAll enc P W' 0 sp true ts vs ds ps
 |[],[],[],_,_,h,_,_=>h
 |t::ts,v::vs,d::ds,_,hr,⟨p,q,I,M,e⟩,hlt,hsp=>by
  subst e;have J:=hr t (md ..);exact⟨p,q,WideElems.Trod_stays hl J.1 J.2 I (fun x V=>H.same (hlt x (Ep _ V))) (fun x V=>hsp x (Ep _ V)),
   Ew hl H (fun t J=>hr t (ma _ J)) M (fun x V=>hlt x (NV _ V)) (fun x V=>hsp x (NV _ V)),rfl⟩
def aab{f:Func}{s:ChangeSpec}{apart fresh handsOn again:Bool}{W' :World}{args:Array Value}{ds gs:List (DataW hb)}{before:List MemPlace}{tb:TypeId}(hl:laidOutB P=true)(hr: ∀t∈f.params.toList,P.readableRec t=true/\t<P.types.size)(hvs:s.vars=[])(hres:f.resultTypes= #[tb])(htb:P.underlying tb=some .bool)(hW:DataW.Whole enc P f.params.toList s.vars apart W args.toList ds gs before)(hs:s.fn hb (ds++gs)={results:=[.lit (.bool true)],args:=ds})(H:Below W.heap.size W W'):
  s.post enc P f apart fresh handsOn again W args (.bool true) W' :=by
 have hW0:=hW;have hlt:=hW.lt;obtain⟨pa,pv,hA,hV,rfl,hz,hn⟩:=hW;rw [hvs]at hV;have hpv:pv=[]:=by
  cases gs with
  |nil=>exact hV
  |cons g gs=>exact hV.elim
 subst hpv;have hlt' : ∀p∈pa,p.block<W.heap.size:=fun p hp=>hlt p (by simpa using hp);have hargs: ∀sp:Nat->Bool,(∀p∈pa,sp p.block=true)->DataW.TrodAll enc P W' 0 sp true f.params.toList args.toList ds pa:=fun sp hsp=>Ew hl H hr hA hlt' hsp;have hresT: ∀(b:Nat) (sp:Nat->Bool) (hd:Bool),DataW.TrodAll enc P W' b sp hd f.resultTypes.toList ((Value.bool true).resultList f.resultTypes.size) [.lit (.bool true)] []:=fun b sp hd=>by
  rw [hres];exact⟨[],[],⟨1,by simp [DataW.trod,htb,Value.cells]⟩,rfl,rfl⟩
 have hvT: ∀sp:Nat->Bool,DataW.TrodVars enc P W' sp s.vars (s.fn hb (ds++gs)).vars []:=fun sp=>by
  rw [hvs,hs];rfl
 have hargs' : ∀sp:Nat->Bool,(∀p∈pa,sp p.block=true)->DataW.TrodAll enc P W' 0 sp true f.params.toList args.toList (s.fn hb (ds++gs)).args pa:=fun sp hsp=>by rw [hs];exact hargs sp hsp
 have hres' : ∀(b:Nat) (sp:Nat->Bool) (hd:Bool),DataW.TrodAll enc P W' b sp hd f.resultTypes.toList ((Value.bool true).resultList f.resultTypes.size) (s.fn hb (ds++gs)).results []:=fun b sp hd=>by rw [hs];exact hresT b sp hd
 have hold: ∀p∈pa,(fun b=>decide (b<W.heap.size)) p.block=true:=fun p hp=>by simpa using hlt' p hp
 refine⟨ds,gs,pa++[],[],pa,[],hW0,hres' _ _ _,hargs' _ hold,hvT _,World.keptBut_mono (fun p hp=>⟨hp,?_⟩) (H.frame _),fun _=>?_⟩
 ·right;simpa using hp
 ·refine⟨?_,_,_,([]++pa)++[],⟨[]++pa,[],trodAll_append (hargs' _ (fun _ _=>rfl)) (hres' _ _ _),hvT _,rfl,?_,?_⟩,?_⟩
  ·intro j t r I M;rw [hres]at I M
   cases j with
   |zero=>
    simp [Value.resultList]at I M;subst I M;simp [Value.okWide,htb,Cell.okWide,Cell.ok]
   |succ j=>simp at I
  ·intro b off hp;have hp' :MemPlace.cell b off∈pa:=by simpa using hp
   have:=hlt' _ hp';rw [H.frozen (p:=⟨b,off,none⟩) this];exact hz b off (by simpa using hp')
  ·intro ha;have:=hn ha;simpa using this
  ·intro p hp _;simpa using hp
end
section
def Gt{α:Type}(r:Rp α)(ok:α->Prop):Rp α where
 sz:=r.sz
 agg:=r.agg
 rc:=fun S cs x=>r.rc S cs x/\ok x
 mono:=fun h k=>⟨r.mono h k.1,k.2⟩
 len:=fun k=>r.len k.1
 one:=fun k=>r.one k.1
 sc:=r.sc
def B2(k:IntKind)(n:Int):Prop:=k.min<=n/\n<=k.max
def inS(s:Fy):Prop:=s.length<=maxLen
def Q9{α:Type}(ok:α->Prop)(xs:List α):Prop:=xs.length<=maxLen/\ ∀x∈xs,ok x
def inT{α:Type}(_:α):Prop:=True
def KL(h:P.underlying t=some (.int k))(hc:P.cellsOf t=1):Ei enc P W t (Gt (rI k) (B2 k)):=⟨hc,fun fuel cs x V=>by
 cases fuel with
 |zero=>simp [DataW.trod]at V
 |succ n=>
  unfold DataW.trod at V;rw [h]at V;split at V;all_goals try (injections;done)
  ·rename_i k1 k2 m heq;injection heq with e;injection e with e;subst e;split at V
   ·rename_i M;obtain⟨rfl,h3⟩:=M;simp only [Lit.wf,iX,nE]at h3;exact⟨m,rfl,h3⟩
   ·cases V⟩
def Zl(h:P.underlying t=some .string)(hc:P.cellsOf t=1):Ei enc P W t (Gt rS inS):=⟨hc,fun fuel cs x V=>by
 cases fuel with
 |zero=>simp [DataW.trod]at V
 |succ n=>
  unfold DataW.trod at V;rw [h]at V;split at V;all_goals try (injections;done)
  ·rename_i s heq;split at V
   ·rename_i M;exact⟨s.data.toList,rfl,(show s.data.toList.length<=maxLen from(show s.size=s.data.toList.length from rfl)▸M)⟩
   ·cases V⟩
def XT(h:P.underlying t=some .bool)(hc:P.cellsOf t=1):Ei enc P W t (Gt rB inT):=
 ⟨hc,fun fuel cs x V=>by obtain⟨y,hy⟩:=(Zm (enc:=enc) (W:=W) h hc).2 fuel cs x V;exact⟨y,hy,trivial⟩⟩
def Rc{α:Type}(r' r:Rp α)(ok:α->Prop):Prop:=r'.sz=r.sz/\r'.agg=r.agg/\ ∀S cs x,r'.rc S cs x->r.rc S cs x/\ok x
def qv:Rc (Gt r ok) r ok:=⟨rfl,rfl,fun _ _ _ h=>h⟩
def VT{α:Type}{r' r:Rp α}{ok:α->Prop}(h:Rc r' r ok){S:SH}: ∀{xs:List α} {cs:List Value},xX r' S cs xs->xX r S cs xs/\ ∀x∈xs,ok x
 |[],_,k=>⟨k,fun x V=>by cases V⟩
 |x::xs,_,⟨a,b,e,I,M⟩=>by
  obtain⟨g1,g2⟩:=h.2.2 _ _ _ I;obtain⟨g3,g4⟩:=VT h M;exact⟨⟨a,b,e,g1,g3⟩,fun y hy=>by
   rcases iW.1 hy with rfl|hy
   ·exact g2
   ·exact g4 y hy⟩
def z8{r' :Rp α}(h:Rc r' r ok):Rc (gM r') (gM r) (Q9 ok):=⟨rfl,rfl,fun S cs xs ⟨a,cap,e,I,M,h3⟩=>by
 rcases h3 with h3|⟨b,off,c,E,fr,e1,e2,e3⟩
 ·exact⟨⟨a,cap,e,I,M,.inl h3⟩,by omega,fun x V=>by rw [h3]at V;cases V⟩
 ·rw [h.1]at e3;obtain⟨g1,g2⟩:=VT h e3;exact⟨⟨a,cap,e,I,M,.inr ⟨b,off,c,E,fr,e1,e2,g1⟩⟩,by omega,g2⟩⟩
def kM{p' p:Rp α}{q' :Rp β}{f:α->Prop}{g:β->Prop}(h:Rc p' p f)(k:Rc q' q g):Rc (dD p' q') (dD p q) (fun x=>f x.1/\g x.2):=
 ⟨by show p'.sz+q'.sz=p.sz+q.sz;rw [h.1,k.1],rfl,fun S cs x ⟨a,b,e,I,M⟩=>⟨⟨a,b,e,(h.2.2 _ _ _ I).1,(k.2.2 _ _ _ M).1⟩,(h.2.2 _ _ _ I).2,(k.2.2 _ _ _ M).2⟩⟩
def zA{p' p:Rp α}{f:β->α}(h:Rc p' p ok):Rc (sr p' f) (sr p f) (fun x=>ok (f x)):=
 ⟨h.1,rfl,fun S cs x k=>h.2.2 _ _ _ k⟩
def Xm{r' :Rp α}(h:Ei enc P W t r')(hr:Rc r' r ok)(hag:r.agg=true){d:DataW hb}{ps:List MemPlace}(hv:DataW.Trod enc P W 0 (fun _=>true) true t v d ps)(hc:v= .agg v.cells): ∃y,(Q r y).p (Sp W) v/\ok y:=by
 obtain⟨fuel,V⟩:=hv;obtain⟨y,hy⟩:=h.2 _ _ _ V;obtain⟨g1,g2⟩:=hr.2.2 _ _ _ hy;exact⟨y,⟨_,by unfold Rp.val;rw [hag,bz rfl];exact hc,g1⟩,g2⟩
def G1{l:Array Field}(J:P.underlying t=some (.struct l))(hv:Value.okWide P W .any base t v):v= .agg v.cells:=by
 unfold Value.okWide at hv;rw [J]at hv;obtain⟨cs,e,_⟩:=hv;rw [e];rfl
end
variable{Ds:List (DataW Unit)}
section
variable{held:Bool}
def ToC(P:Program)(W:World)(held:Bool)(t:TypeId)(D:DataW Unit)(cells:List Value):Prop:=
 P.cellsOf t=cells.length/\ ∀fuel cs x,DataW.trod (fun _=>()) P W 0 (fun _=>true) held fuel t cs=some x->x.1=D->cs=cells
def xM{n:Int}(h:P.underlying t=some (.int k))(hc:P.cellsOf t=1):ToC P W held t (.lit (.int k n)) [.int k n]:=⟨hc,fun fuel cs x V hD=>by
 obtain⟨m,I,M,_⟩:=DataW.trod_int h V;subst M;simp only [DataW.lit.injEq,Lit.int.injEq,true_and]at hD;rw [I,hD]⟩
def PA{s:List UInt8}(h:P.underlying t=some .string)(hc:P.cellsOf t=1):ToC P W held t (.lit (.string s)) [.string ⟨s.toArray⟩]:=⟨hc,fun fuel cs x V hD=>by
 obtain⟨m,I,M,_⟩:=DataW.trod_string h V;subst M;simp only [DataW.lit.injEq,Lit.string.injEq]at hD;subst hD;rw [I]⟩
def FC(P:Program)(W:World)(held:Bool)(off:Nat)(l:List (TypeId×Nat))(Ds:List (DataW Unit))(cells:List Value):Prop:=
 ∀(n:Nat) (cs:List Value),cs.length=off+cells.length->(∀(i:Nat) f,l[i]? =some f-> ∃x,DataW.trod (fun _=>()) P W 0 (fun _=>true) held n f.1 ((cs.drop f.2).take (P.cellsOf f.1))=some x/\Ds[i]? =some x.1)->cs.drop off=cells
def Qt:FC P W held off [] [] []:=fun n cs hl _=>Hi (by simp at hl;omega)
def qH{off' :Nat}{l:List (TypeId×Nat)}{D:DataW Unit}{c:List Value}(h:ToC P W held t D c)(ho:off' =off+c.length)(k:FC P W held off' l Ds cells):FC P W held off ((t,off)::l) (D::Ds) (c++cells):=fun n cs hl V=>by
 obtain⟨x,I,M⟩:=V 0 (t,off) rfl;simp only [Nf,FZ]at M;have h3:=h.2 n _ x I M.symm;have h4:=k n cs (by rw [hl,ho,lj];omega) fun i f hf=>by simpa using V (i+1) f (by simpa using hf)
 have e:cs.drop off=(cs.drop off).take (P.cellsOf t)++cs.drop off' :=by
  rw [ho,<-h.1,<-uf,A8]
 rw [e,h4];exact congrArg (· ++cells) h3
def EY{l:List (TypeId×Nat)}(J:(P.underlying t).map (fun d=>match d with| .struct l=>(true,l.toList.map fun f=>(f.type,f.offset))|_=>(false,[]))=some (true,l))(hc:P.cellsOf t=cells.length)(hf:FC P W held 0 l Ds cells):ToC P W held t (.agg Ds) cells:=⟨hc,fun fuel cs x V hD=>by
 obtain⟨fs,I,M⟩: ∃fs,P.underlying t=some (.struct fs)/\fs.toList.map (fun f=>(f.type,f.offset))=l:=by
  cases hu:P.underlying t with
  |none=>rw [hu]at J;cases J
  |some d=>
   rw [hu]at J;cases d<;>simp at J;exact⟨_,rfl,J⟩
 obtain⟨xs,n,rfl,h3,h4,h5,h6⟩:=DataW.trod_struct I V;rw [h3]at hD;simp only [DataW.agg.injEq]at hD;have:=hf n cs (by rw [h4,hc];omega) fun i f hi=>by
  rw [<-M,Co]at hi;obtain⟨f0,hf0,rfl⟩:=A9.1 hi;have h7:=h6 i f0 (by simpa using hf0);have hlt:i<xs.length:=by
   have:=(qS.1 hf0).1;rw [h5];simpa using this
  rw [qg hlt]at h7;exact⟨xs[i],h7,by rw [<-hD];simp [hlt]⟩
 rwa [xu]at this⟩
def ab9{m:Nat}(J:P.underlying t=some (.array m e))(hc:P.cellsOf t=cells.length)(hf:FC P W held 0 ((List.range m).map fun i=>(e,i*P.cellsOf e)) Ds cells):ToC P W held t (.agg Ds) cells:=⟨hc,fun fuel cs x V hD=>by
 obtain⟨xs,n,rfl,h3,h4,h5,h6⟩:=DataW.trod_array J V;rw [h3]at hD;simp only [DataW.agg.injEq]at hD;have:=hf n cs (by rw [h4,hc];omega) fun i f hi=>by
  rw [Co]at hi;obtain⟨j,hj,rfl⟩:=A9.1 hi;obtain⟨hlt,hj2⟩:=qS.1 hj;simp at hlt hj2;subst hj2;have h7:=h6 i hlt;have hlt' :i<xs.length:=by rw [h5];exact hlt
  rw [qg hlt']at h7;exact⟨xs[i],h7,by rw [<-hD];simp [hlt']⟩
 rwa [xu]at this⟩
def Sq: ∀{L:List (String×DataW Unit)} {ps:List MemPlace},DataW.LaidVars P W L ps-> ∀n d,(n,d)∈L-> ∃g t cs fuel p,P.globalNamed n=some g/\(P.globals[g]?).map (·.type)=some t/\W.var? P n=some cs/\DataW.trod (fun _=>()) P W 0 (fun _=>true) false fuel t cs.toList=some (d,p)
 |(_,_)::_,_,⟨g,t,cs,fuel,p,_,I,M,h3,h4,_,_⟩,_,_,.head _=>⟨g,t,cs,fuel,p,I,M,h3,h4⟩
 |(_,_)::_,_,⟨_,_,_,_,_,_,_,_,_,_,h,_⟩,n,d,.tail _ hm=>Sq h n d hm
def Qj{L:List (String×DataW Unit)}(h:laidMet P L W){n:String}{d:DataW Unit}(hm:(n,d)∈L){g:Nat}(hg:P.globalNamed n=some g)(J:(P.globals[g]?).map (·.type)=some t)(hc:ToC P W false t d cells):
  ∃c aj fr,W.heap[g]? =some (.cells c aj fr)/\c.toList.take cells.length=cells:=by
 obtain⟨ps,hL,_,_⟩:=h;obtain⟨g',t',cs,fuel,p,I,M,h3,h4⟩:=Sq hL n d hm;obtain rfl:=vc (hg.symm.trans I);obtain rfl:=vc (J.symm.trans M);have h5:=hc.2 fuel _ _ h4 rfl;unfold World.var? at h3;rw [hg]at h3;simp only [bw]at h3;split at h3
 ·rename_i c aj fr H;cases h3;exact⟨_,_,_,H,by rw [h5,DZ]⟩
 ·cases h3
end
section
def hH{N:Fr}{y:α}{x:Operand}(hag:r.agg=true)(hr: ∀S,r.rc S [v] y)(h:be N G x (tV (.agg #[v]))):be N G x (Q r y):=fun S a hf=>⟨[v],by rw [Rp.val,bz hag];exact h S a hf,hr S⟩
end
section
variable{t:ι->Ty}
end
section
def YB{x:α}{n:Int}{y y' :Operand}{k' :IntKind}(ti:TI E.P aj sz bytes agg z)(hsz:r.sz=sz)(hz:Nat.beq z.length sz=true)(h128:Nat.ble bytes 2048=true)(J:E.P.underlying t=some (.slice aj))(V: ∀S,r.rc S z x)(hy:be E.N G y (Q (rI k) n))(hy' :be E.N G y' (Q (rI k') n))(h:rQ n x=some zs):
  EffOK E O G ⟨some d,.makeSlice t y y',ty,pos,after,g⟩ (fun i=>gh r aj (i.h 0).1 (i.h 0).2 zs::O) (fun i=>tO r (i.h 0).1 (i.h 0).2 zs):=fun a w S hs ho hf H=>by
 subst hsz;obtain⟨i,zv,hi,I,M,h3,h4⟩:=ti.get;obtain⟨m,rfl,hm,rfl⟩:=Cr h;have hyv:=d7.1 (hy S a hf);have hyv' :=d7.1 (hy' S a hf);have hz2:z.length=r.sz:=zp hz;have h128' :=ve h128;have hbytes:(i.bytes:Int)*(m:Int)<=281474976710656:=by
  have:i.bytes*m<=2048*68719476736:=NP (by omega) hm;have h5:((i.bytes*m:Nat):Int)<=281474976710656:=by omega
  rwa [Int.natCast_mul]at h5
 have hr:=run_make (P:=E.P) w t aj i zv J hi h3 k k' (m:Int) (m:Int) (by omega) (Int.le_refl _) hbytes (by omega);rw [zn,I,h4]at hr;obtain⟨he,hs'⟩:=vS (w:=w) (.cells (madeCells z.toArray (m*r.sz)) aj (0,0)) hs;have hrun:(execOp a.eval ⟨some d,.makeSlice t y y',ty,pos,after,g⟩).run E.P w= .ok (.value (.slice (some ⟨w.heap.size,0,none⟩) m m)) (w.alloc (.cells (madeCells z.toArray (m*r.sz)) aj (0,0))):=by
  simp [execOp,hyv,hyv',hr]
 refine⟨fun c h=>(by cases h),?_⟩;rw [hrun];have hfl:=flat_len hz2 m;have hmc:=AK z m r.sz hz2;have harr:H9 true r aj (some w.heap.size) m (List.replicate m x) (w.alloc (.cells (madeCells z.toArray (m*r.sz)) aj (0,0))) (S.set w.heap.size (.cells (madeCells z.toArray (m*r.sz)) aj (0,0))):=by
  refine⟨(List.replicate m z).flatten,⟨_,Ck w _,by simp,by simp only [maxLen];omega,by rw [size_madeCells],?_⟩,AF V _ m,fun b H=>?_⟩
  ·rw [hmc,Ix];exact rO (by omega)
  ·rw [<-vc H];have e:madeCells z.toArray (m*r.sz)=((List.replicate m z).flatten).toArray:=by
    rw [<-hmc]
   rw [bz rfl,<-e];exact sU _ _ _
 refine⟨_,_,oi (some w.heap.size) m,rfl,he.more fun _ H=>H.elim,hs',vy ho he (e:=gh r aj (some w.heap.size) m (List.replicate m x)) harr (fun b H=>FU (vc H)) H,?_⟩;refine⟨?_,?_⟩
 ·show _=aY _ _ _;rw [Ix];rfl
 ·have h9:=vn harr;rw [Ix]at h9;exact h9
end
def YQ{t:ι->Ty}(hf:P.funcs[f]? =some fn)(H:fn.body=some c)(hN:fn.ntmps=N)(hn:Nat.ble ts.length N=true)(h: ∀w0 S0,CG ⟨P,⟨N,[]⟩,Fo O1,w0,S0,none⟩ (bodyPostM (fw none) 0 P fn (aa3 ⟨P,⟨N,[]⟩,Fo O1,w0,S0,none⟩ O1 t O2)) c O1 (xH 0 ts)):dZ P f ts O1 t O2:=by
 subst hN;intro w S vs hs hv ho;exact ny.1 (callsIn_of_wp_marks (F:=fw none) (n:=0) hf H trivial (h w S _ w S ⟨kh.refl _ _ _,hs,ox ho fun f hf k hk=> .inr ⟨f,hf,hk⟩,qI hv _ (ve hn)⟩))
def Tw(x y c:Int):Option (Int×Int):=if 0<=x/\0<=y/\0<=c/\c<=1 then some ((x+y+c)%18446744073709551616,(x+y+c)/18446744073709551616)else none
section
def Sd{s u c:Int}{R:Int×Int}{x y z:Operand}(hf:E.P.funcs[f]? =some fn)(hname:(fn.name== "runtime.NumGoroutine")=false)(H:fn.body.isNone=true)(hn:Extern.findNext fn=none)(he:Extern.find fn=some add64Entry)(V:be E.N G x (Q (rI .u64) s))(hy:be E.N G y (Q (rI .u64) u))(hz:be E.N G z (Q (rI .u64) c))(h:Tw s u c=some R):
  cu E O G ⟨dst,.call ⟨.value (.func f),#[x,y,z],ats⟩,ty,pos,after,g⟩ (tT [Q (rI .u64) R.1,Q (rI .u64) R.2]):= .of_pure fun a w S _ _ hF=>by
 have I:a.eval x= .int .u64 s:=d7.1 (V S a hF);have M:a.eval y= .int .u64 u:=d7.1 (hy S a hF);have h5:a.eval z= .int .u64 c:=d7.1 (hz S a hF);unfold Tw at h;split at h
 ·rename_i hc;cases h;refine⟨.tuple #[.int .u64 ((s+u+c)%18446744073709551616),.int .u64 ((s+u+c)/18446744073709551616)],?_,[_,_],rfl,d7.2 rfl,d7.2 rfl,trivial⟩;have h3:=run_callFunc_extern hf hname H hn he #[.int .u64 s,.int .u64 u,.int .u64 c] w;rw [run_add64 s u c hc.1 hc.2.1 hc.2.2.1 hc.2.2.2]at h3;have h0:a.eval (.func f)= .func (.func f) #[] #[]:=rfl;simp [execOp,resolve,h0,Deferred.ofValue,invoke,I,M,h5,h3,Result.andThen]
 ·cases h
end
def Y{α:Sort _}{a:α}:a=a:=rfl
def Z:True:=trivial
abbrev bS(x:Int):Ty:=Q (rI .i64) x
abbrev iF(x:Bool):Ty:=Q rB x
abbrev iQ{α:Type}(l:List α):Ty:=Q (rI .i64) (l.length:Int)
abbrev u8z:Rp (List Int):=gM (rI .i64)
abbrev oA(l:List Int):Ty:=Q (gM (rI .i64)) l
abbrev cy{α:Type}(r:Rp α)(l:List α):Ty:=Q (gM r) l
abbrev rr{α:Type}(l:Option Nat)(c:Nat)(xs:List α):Ty:=tV (aY l c xs.length)
def bA: ∀{G' G:pC},G'.map (fun p=>cH G p.1)=G'.map (fun p=>some p.2)->T9 G' G
 |[],_,_=>trivial
 |(_,_)::_,_,h=>⟨(Io h).1,bA (Io h).2⟩
variable{xt:TypeId}
section
def l0{t:Ty}(h:cH G x=some t):cu E O G ⟨dst,.move (.tmp x),ty,pos,after,g⟩ t:=bQ (J h)
def Aj{t:Ty}(h:cH G x=some t):cu E O G ⟨dst,.assign (.tmp x),ty,pos,after,g⟩ t:=bu (J h)
def zai{n:Int}:cu E O G ⟨dst,.assign (.const (.int k n)),ty,pos,after,g⟩ (Q (rI k) n):=bu hI
def zab{b:Bool}:cu E O G ⟨dst,.assign (.const (.bool b)),ty,pos,after,g⟩ (Q rB b):=bu hB
def np{x:α}(ti:TI E.P U sz bytes agg z)(hp:cH G p=some (bH r x))(hs:(r.sz,r.agg)=(sz,agg)):
  cu E O G ⟨dst,.load U (.tmp p),ty,pos,after,g⟩ (Q r x):=gO ti (vf hs).1 (vf hs).2 (J hp)
def mW{get:α->β}{x:α}{i:Nat}(hf:dv E.P aj i=some (off,sz))(hq:ro r off q get)(hp:cH G p=some (bH r x))(h0:(!(Nat.beq sz 0)&&Nat.ble (off+q.sz) r.sz)=true):cu E O G ⟨dst,.fieldAddr aj (.tmp p) i,ty,pos,after,g⟩ (bH q (get x)):=
 nT hf (by cases h:Nat.beq sz 0<;>simp [h]at h0 ⊢) hq (by revert h0;cases Nat.ble (off+q.sz) r.sz<;>simp) (J hp)
def XN(hu:E.P.underlying t=some (.slice e))(V:cH G x=some (Q (gM r) xs)):
  cu E O G ⟨dst,.call ⟨.builtin .len,#[.tmp x],#[t]⟩,ty,pos,after,g⟩ (Q (rI .i64) (xs.length:Int)):=oH hu (J V)
def yi{i:Nat}{t:Ty}(hi:ts[i]? =some t)(V:cH G x=some (tT ts)):cu E O G ⟨dst,.extract (.tmp x) i,ty,pos,after,g⟩ t:=UF hi (J V)
def zbx{v:α}(V:cH G x=some (Q r v)):cu E O G ⟨dst,.box aj (.tmp x),ty,pos,after,g⟩ (bH r v):=UG (J V)
def zpa{c:Nat}{b q:Bool}(hc:cH G c=some (Q rB b))(V:cH G x=some (pK b (Q rB q))):cu E O G ⟨dst,.pick (.tmp c) (.tmp x) (.const (.bool false)),ty,pos,after,g⟩ (Q rB (b&&q)):=wo (J hc) (fun H=>db V H)
def zpo{c:Nat}{b q:Bool}(hc:cH G c=some (Q rB b))(V:cH G x=some (pK (!b) (Q rB q))):cu E O G ⟨dst,.pick (.tmp c) (.const (.bool true)) (.tmp x),ty,pos,after,g⟩ (Q rB (b||q)):=Dw (J hc) (fun H=>db V (Ea H))
variable{y:Nat}{m n:Int}
def zlt(V:cH G x=some (Q (rI k) m))(hy:cH G y=some (Q (rI k) n)):cu E O G ⟨dst,.binOp .lss xt (.tmp x) (.tmp y) yt,ty,pos,after,g⟩ (Q rB (decide (m<n))):=jk (J V) (J hy)
def zei(V:cH G x=some (Q (rI j) m)):cu E O G ⟨dst,.binOp .eql xt (.tmp x) (.const (.int j n)) yt,ty,pos,after,g⟩ (Q rB (m==n)):=mb (J V) hI
def zni(V:cH G x=some (Q (rI j) m)):cu E O G ⟨dst,.binOp .neq xt (.tmp x) (.const (.int j n)) yt,ty,pos,after,g⟩ (Q rB (m !=n)):=iO (J V) hI
def Ky{y:α}{x:Nat}{k:IntKind}{i:Int}(hu:E.P.underlying t=some (.slice e))(ti:TI E.P e sz bytes agg z)(hsz:r.sz=sz)(V:cH G x=some (Q (gM r) xs))(hi:cH G ix=some (Q (rI k) i))(hy:cO xs i=some y):
  cu E O G ⟨dst,.indexAddr t (.tmp x) (.tmp ix),ty,pos,after,g⟩ (bH r y):=bn hu ti hsz (J V) (J hi) hy
def zin{i:Nat}{x:Nat}{xt yt:TypeId}(hi:i<9223372036854775807)(V:cH G x=some (Q (rI .i64) (i:Int))):
  cu E O G ⟨dst,.binOp .add xt (.tmp x) (.const (.int .i64 1)) yt,ty,pos,after,g⟩ (Q (rI .i64) ((i+1:Nat):Int)):=xZ hi (J V) hI
def rP{i o:Nat}(n:Nat)(hf:dv E.P aj i=some (off,sz))(h0:Nat.beq sz 0=false)(hp:cH G p=some (tV (aE b o)))(he:o+off=n):cu E O G ⟨dst,.fieldAddr aj (.tmp p) i,ty,pos,after,g⟩ (tV (aE b n)):=tQ (n:=n) hf h0 (J hp) he
end
variable{op:Op}
section
variable{l:List Oper}
def zo{t:Ty}(hd:Nat.blt d E.N.n=true)(h:cu E O G ⟨some d,op,ty,pos,after,none⟩ t)(k:RG E ops tD l O ((d,t)::G)):
  RG E ops tD (⟨some d,op,ty,pos,after,none⟩::l) O G:=t7 h hd k
def y6(n d:Nat)(r:Option Ty):Option Ty:=if Nat.blt d n then r else none
def dP{r:Option Ty}{t:Ty}(h:y6 n d r=some t):Nat.blt d n=true/\r=some t:=by
 unfold y6 at h;split at h
 case isTrue I=>exact⟨I,h⟩
 case isFalse=>cases h
def bj{t:Ty}(h:y6 E.N.n d (cH G x)=some t)(k:RG E ops tD l O ((d,t)::G)):
  RG E ops tD (⟨some d,.move (.tmp x),ty,pos,after,none⟩::l) O G:=t7 (bQ (J (dP h).2)) (dP h).1 k
def iH{t:Ty}(h:y6 E.N.n d (cH G x)=some t)(k:RG E ops tD l O ((d,t)::G)):
  RG E ops tD (⟨some d,.assign (.tmp x),ty,pos,after,none⟩::l) O G:=t7 (bu (J (dP h).2)) (dP h).1 k
def bI(h:CG E tD y O G):RG E ops (Exit.then (y.wpIn (fw E.r) 0 E.P tD) tD) [] O G:=bD (aw h)
def aQ{id:Nat}{l:List Oper}(h:RG E l.toArray (Exit.then (y.wpIn (fw E.r) 0 E.P tD) tD) l O G):CG E tD (.seq (.region id l.toArray false) y) O G:=aC (aG h)
def px{β:Type _}{X aa:Option β}{r:β}{c:Nat}{x:Code}{b:Bool}(h:(if b=true then X else aa)=some r)(H:cH G c=some (Q rB b))(V:X=some r->CG E tD x O G)(hy:aa=some r->CG E tD y O G):CG E tD (.cond (.tmp c) x y) O G:=
 tu (J H) (fun hc=>V (ct h hc)) (fun hc=>hy (cf h hc))
def iq(h:CG E tD y O G):CG E (Exit.then (y.wpIn (fw E.r) 0 E.P tD) tD) .skip O G:=bO (aw h)
def zgt{j gs:Nat}{b:Bool}{t:Ty}(hj:(ops[j]?).bind (·.dst)=some gs)(hg:y6 E.N.n gs (y6 E.N.n d (cH G gs))=some (Q rB b))(h:b=true->cu E O G ⟨some d,op,ty,pos,after,some (j,true)⟩ t)(k:RG E ops tD l O ((d,pK b t)::G)):RG E ops tD (⟨some d,op,ty,pos,after,some (j,true)⟩::l) O G:=aeZ hj (dP hg).1 (dP (dP hg).2).2 (dP (dP hg).2).1 h k
def zgf{j gs:Nat}{b:Bool}{t:Ty}(hj:(ops[j]?).bind (·.dst)=some gs)(hg:y6 E.N.n gs (y6 E.N.n d (cH G gs))=some (Q rB b))(h:(!b)=true->cu E O G ⟨some d,op,ty,pos,after,some (j,false)⟩ t)(k:RG E ops tD l O ((d,pK (!b) t)::G)):RG E ops tD (⟨some d,op,ty,pos,after,some (j,false)⟩::l) O G:=ae0 hj (dP hg).1 (dP (dP hg).2).2 (dP (dP hg).2).1 h k
end
def cj{α:Type _}{β:Type _}{x:Option α}{k:α->Option β}{r:β}{P:Prop}(h:x.bind k=some r)(f: ∀y,x=some y->k y=some r->P):P:=by
 obtain⟨y,I,M⟩:=bs h;exact f y I M
variable{u1:Ty}
section
variable{l:List Oper}{i:Nat}{t:Ty}
def JG{a b c:Bool}(h:(a&&b&&c)=true):a=true/\b=true/\c=true:=by revert h;cases a<;>cases b<;>cases c<;>simp
def isn{x:Option α}(h:x.isNone=true):x=none:=by cases x;rfl;cases h
def Q6(h:ts[i]? =some t)(k:cu E O [] o t)(H:(jZ i o&&o.guard.isNone)=true:=by exact rfl): ∃(needs:List Nd) (t:Ty),ts[i]? =some t/\AX G ts needs/\(needs.all (wk l o i))=true/\jZ i o=true/\bF E O l.toArray (oO needs) o t:=
 ⟨[],t,h,trivial,rfl,(Er.1 H).1,ae (isn (Er.1 H).2) k⟩
def oq(a:Nat)(h:ts[i]? =some t)(hu:Df G ts ⟨a,u,none⟩)(k:cu E O [(a,u)] o t)(H:([(⟨a,u,none⟩:Nd)].all (wk l o i)&&jZ i o&&o.guard.isNone)=true:=by exact rfl): ∃(needs:List Nd) (t:Ty),ts[i]? =some t/\AX G ts needs/\(needs.all (wk l o i))=true/\jZ i o=true/\bF E O l.toArray (oO needs) o t:=
 ⟨[(⟨a,u,none⟩:Nd)],t,h,⟨hu,trivial⟩,(JG H).1,(JG H).2.1,ae (isn (JG H).2.2) k⟩
def dy(a:Nat)(j:Nat)(h:ts[i]? =some t)(hu:Df G ts ⟨a,u,(some j)⟩)(k:cu E O [(a,u)] o t)(H:([(⟨a,u,(some j)⟩:Nd)].all (wk l o i)&&jZ i o&&o.guard.isNone)=true:=by exact rfl): ∃(needs:List Nd) (t:Ty),ts[i]? =some t/\AX G ts needs/\(needs.all (wk l o i))=true/\jZ i o=true/\bF E O l.toArray (oO needs) o t:=
 ⟨[(⟨a,u,(some j)⟩:Nd)],t,h,⟨hu,trivial⟩,(JG H).1,(JG H).2.1,ae (isn (JG H).2.2) k⟩
def zes(a:Nat)(j:Nat)(h:ts[i]? =some t)(hu:Df G ts ⟨a,u,(some j)⟩)(k:bF E O l.toArray [(a,u)] o t)(H:([(⟨a,u,(some j)⟩:Nd)].all (wk l o i)&&jZ i o)=true:=by exact rfl): ∃(needs:List Nd) (t:Ty),ts[i]? =some t/\AX G ts needs/\(needs.all (wk l o i))=true/\jZ i o=true/\bF E O l.toArray (oO needs) o t:=
 ⟨[(⟨a,u,(some j)⟩:Nd)],t,h,⟨hu,trivial⟩,(Er.1 H).1,(Er.1 H).2,k⟩
def ui(a:Nat)(a1:Nat)(j1:Nat)(h:ts[i]? =some t)(hu:Df G ts ⟨a,u,none⟩)(hu1:Df G ts ⟨a1,u1,(some j1)⟩)(k:bF E O l.toArray [(a,u),(a1,u1)] o t)(H:([(⟨a,u,none⟩:Nd),⟨a1,u1,(some j1)⟩].all (wk l o i)&&jZ i o)=true:=by exact rfl): ∃(needs:List Nd) (t:Ty),ts[i]? =some t/\AX G ts needs/\(needs.all (wk l o i))=true/\jZ i o=true/\bF E O l.toArray (oO needs) o t:=
 ⟨[(⟨a,u,none⟩:Nd),⟨a1,u1,(some j1)⟩],t,h,⟨hu,hu1,trivial⟩,(Er.1 H).1,(Er.1 H).2,k⟩
def dX(a:Nat)(j:Nat)(a1:Nat)(j1:Nat)(h:ts[i]? =some t)(hu:Df G ts ⟨a,u,(some j)⟩)(hu1:Df G ts ⟨a1,u1,(some j1)⟩)(k:cu E O [(a,u),(a1,u1)] o t)(H:([(⟨a,u,(some j)⟩:Nd),⟨a1,u1,(some j1)⟩].all (wk l o i)&&jZ i o&&o.guard.isNone)=true:=by exact rfl): ∃(needs:List Nd) (t:Ty),ts[i]? =some t/\AX G ts needs/\(needs.all (wk l o i))=true/\jZ i o=true/\bF E O l.toArray (oO needs) o t:=
 ⟨[(⟨a,u,(some j)⟩:Nd),⟨a1,u1,(some j1)⟩],t,h,⟨hu,hu1,trivial⟩,(JG H).1,(JG H).2.1,ae (isn (JG H).2.2) k⟩
def jN(a:Nat)(j:Nat)(a1:Nat)(j1:Nat)(h:ts[i]? =some t)(hu:Df G ts ⟨a,u,(some j)⟩)(hu1:Df G ts ⟨a1,u1,(some j1)⟩)(k:bF E O l.toArray [(a,u),(a1,u1)] o t)(H:([(⟨a,u,(some j)⟩:Nd),⟨a1,u1,(some j1)⟩].all (wk l o i)&&jZ i o)=true:=by exact rfl): ∃(needs:List Nd) (t:Ty),ts[i]? =some t/\AX G ts needs/\(needs.all (wk l o i))=true/\jZ i o=true/\bF E O l.toArray (oO needs) o t:=
 ⟨[(⟨a,u,(some j)⟩:Nd),⟨a1,u1,(some j1)⟩],t,h,⟨hu,hu1,trivial⟩,(Er.1 H).1,(Er.1 H).2,k⟩
def Kz(a:Nat)(j:Nat)(a1:Nat)(j1:Nat)(a2:Nat)(j2:Nat){u2:Ty}(h:ts[i]? =some t)(hu:Df G ts ⟨a,u,(some j)⟩)(hu1:Df G ts ⟨a1,u1,(some j1)⟩)(hu2:Df G ts ⟨a2,u2,(some j2)⟩)(k:cu E O [(a,u),(a1,u1),(a2,u2)] o t)(H:([(⟨a,u,(some j)⟩:Nd),⟨a1,u1,(some j1)⟩,⟨a2,u2,(some j2)⟩].all (wk l o i)&&jZ i o&&o.guard.isNone)=true:=by exact rfl): ∃(needs:List Nd) (t:Ty),ts[i]? =some t/\AX G ts needs/\(needs.all (wk l o i))=true/\jZ i o=true/\bF E O l.toArray (oO needs) o t:=
 ⟨[(⟨a,u,(some j)⟩:Nd),⟨a1,u1,(some j1)⟩,⟨a2,u2,(some j2)⟩],t,h,⟨hu,hu1,hu2,trivial⟩,(JG H).1,(JG H).2.1,ae (isn (JG H).2.2) k⟩
def zu(a:Nat)(j:Nat)(a1:Nat)(j1:Nat)(a2:Nat)(j2:Nat){u2:Ty}(h:ts[i]? =some t)(hu:Df G ts ⟨a,u,(some j)⟩)(hu1:Df G ts ⟨a1,u1,(some j1)⟩)(hu2:Df G ts ⟨a2,u2,(some j2)⟩)(k:bF E O l.toArray [(a,u),(a1,u1),(a2,u2)] o t)(H:([(⟨a,u,(some j)⟩:Nd),⟨a1,u1,(some j1)⟩,⟨a2,u2,(some j2)⟩].all (wk l o i)&&jZ i o)=true:=by exact rfl): ∃(needs:List Nd) (t:Ty),ts[i]? =some t/\AX G ts needs/\(needs.all (wk l o i))=true/\jZ i o=true/\bF E O l.toArray (oO needs) o t:=
 ⟨[(⟨a,u,(some j)⟩:Nd),⟨a1,u1,(some j1)⟩,⟨a2,u2,(some j2)⟩],t,h,⟨hu,hu1,hu2,trivial⟩,(Er.1 H).1,(Er.1 H).2,k⟩
end
def BY{r s:Option Ty}{t:Ty}(h:(y6 n d r,s)=(some t,some u)):Nat.blt d n=true/\r=some t/\s=some u:=
 ⟨(dP (vf h).1).1,(dP (vf h).1).2,(vf h).2⟩
def ae9(G:pC):Operand->Option Ty
 | .tmp k=>cH G k
 | .const (.int k n)=>some (Q (rI k) n)
 | .const (.bool b)=>some (Q rB b)
 |_=>none
def TZ{N:Fr}{t:Ty}: ∀{x:Operand},ae9 G x=some t->be N G x t
 | .tmp _,h=>J h
 | .const (.int _ _),h=>by cases h;exact hI
 | .const (.bool _),h=>by cases h;exact hB
def bN{N:Fr}{G:pC}: ∀{xs:List Operand} {ts:List Ty},xs.map (ae9 G)=ts.map some->lI N G xs ts
 |[],[],_=>trivial
 |_::_,_::_,h=>⟨TZ (Io h).1,bN (Io h).2⟩
variable{after2:Array Edge}{id' :Nat}{pos2:String}{tl:List α}{ty2:TypeId}
section
variable{l:List Oper}{t:Ty}
def T(h:cu E O G ⟨some d,op,ty,pos,after,none⟩ t)(k:RG E ops tD l O ((d,t)::G))(hd:Nat.blt d E.N.n=true:=by exact rfl):
  RG E ops tD (⟨some d,op,ty,pos,after,none⟩::l) O G:=t7 h hd k
def bq{x:α}(ti:TI E.P U sz bytes agg z)(hp:y6 E.N.n d (cH G p)=some (bH r x))(k:RG E ops tD l O ((d,Q r x)::G))(hs:(r.sz,r.agg)=(sz,agg):=by exact rfl):RG E ops tD (⟨some d,.load U (.tmp p),ty,pos,after,none⟩::l) O G:=zo (dP hp).1 (np ti (dP hp).2 hs) k
def vh{get:α->β}{x:α}{i:Nat}(hf:dv E.P aj i=some (off,sz))(hq:ro r off q get)(hp:y6 E.N.n d (cH G p)=some (bH r x))(k:RG E ops tD l O ((d,bH q (get x))::G))(h0:(!(Nat.beq sz 0)&&Nat.ble (off+q.sz) r.sz)=true:=by exact rfl):
  RG E ops tD (⟨some d,.fieldAddr aj (.tmp p) i,ty,pos,after,none⟩::l) O G:=zo (dP hp).1 (mW hf hq (dP hp).2 h0) k
def bX{get:α->β}{x:α}{i s2:Nat}{d2 p2:Nat}(hf:dv E.P aj i=some (off,sz))(hq:ro r off q get)(ti:TI E.P U s2 bytes agg z)(hp:y6 E.N.n d (cH G p)=some (bH r x))(k:RG E ops tD l O ((d2,Q q (get x))::(d,bH q (get x))::G))(h0:(!(Nat.beq sz 0)&&Nat.ble (off+q.sz) r.sz)=true:=by exact rfl)(hp2:y6 E.N.n d2 (cH ((d,bH q (get x))::G) p2)=some (bH q (get x)):=by exact rfl)(hs:(q.sz,q.agg)=(s2,agg):=by exact rfl):
  RG E ops tD (⟨some d,.fieldAddr aj (.tmp p) i,ty,pos,after,none⟩::⟨some d2,.load U (.tmp p2),ty2,pos2,after2,none⟩::l) O G:=vh hf hq hp (bq ti hp2 k hs) h0
def cL{i o:Nat}(n:Nat)(hf:dv E.P aj i=some (off,sz))(hp:y6 E.N.n d (cH G p)=some (tV (aE b o)))(k:RG E ops tD l O ((d,tV (aE b n))::G))(h0:Nat.beq sz 0=false:=by exact rfl)(he:o+off=n:=by exact rfl):RG E ops tD (⟨some d,.fieldAddr aj (.tmp p) i,ty,pos,after,none⟩::l) O G:=zo (dP hp).1 (rP n hf h0 (dP hp).2 he) k
def bL{i:Nat}(V:y6 E.N.n d (cH G x)=some (tT ts))(hi:ts[i]? =some t)(k:RG E ops tD l O ((d,t)::G)):RG E ops tD (⟨some d,.extract (.tmp x) i,ty,pos,after,none⟩::l) O G:=zo (dP V).1 (yi hi (dP V).2) k
def bU{n:Int}(k:RG E ops tD l O ((d,Q (rI j) n)::G))(hd:Nat.blt d E.N.n=true:=by exact rfl):RG E ops tD (⟨some d,.assign (.const (.int j n)),ty,pos,after,none⟩::l) O G:=zo hd zai k
def ck{b:Bool}(k:RG E ops tD l O ((d,Q rB b)::G))(hd:Nat.blt d E.N.n=true:=by exact rfl):RG E ops tD (⟨some d,.assign (.const (.bool b)),ty,pos,after,none⟩::l) O G:=zo hd zab k
def ca(hu:E.P.underlying st=some (.slice e))(V:y6 E.N.n d (cH G x)=some (Q (gM r) xs))(k:RG E ops tD l O ((d,Q (rI .i64) (xs.length:Int))::G)):
  RG E ops tD (⟨some d,.call ⟨.builtin .len,#[.tmp x],#[st]⟩,ty,pos,after,none⟩::l) O G:=zo (dP V).1 (XN hu (dP V).2) k
def cg{v:α}(V:y6 E.N.n d (cH G x)=some (Q r v))(k:RG E ops tD l O ((d,bH r v)::G)):RG E ops tD (⟨some d,.box aj (.tmp x),ty,pos,after,none⟩::l) O G:=zo (dP V).1 (zbx (dP V).2) k
def i9{c:Nat}{b q:Bool}(h:(y6 E.N.n d (cH G c),cH G x)=(some (Q rB b),some (pK b (Q rB q))))(k:RG E ops tD l O ((d,Q rB (b&&q))::G)):
  RG E ops tD (⟨some d,.pick (.tmp c) (.tmp x) (.const (.bool false)),ty,pos,after,none⟩::l) O G:=zo (BY h).1 (zpa (BY h).2.1 (BY h).2.2) k
def py{c:Nat}{b q:Bool}(h:(y6 E.N.n d (cH G c),cH G x)=(some (Q rB b),some (pK (!b) (Q rB q))))(k:RG E ops tD l O ((d,Q rB (b||q))::G)):
  RG E ops tD (⟨some d,.pick (.tmp c) (.const (.bool true)) (.tmp x),ty,pos,after,none⟩::l) O G:=zo (BY h).1 (zpo (BY h).2.1 (BY h).2.2) k
section
variable{y:Nat}{m n:Int}
def wS(h:(y6 E.N.n d (cH G x),cH G y)=(some (Q (rI j) m),some (Q (rI j) n)))(k:RG E ops tD l O ((d,Q rB (decide (m<n)))::G)):
  RG E ops tD (⟨some d,.binOp .lss xt (.tmp x) (.tmp y) yt,ty,pos,after,none⟩::l) O G:=zo (BY h).1 (zlt (BY h).2.1 (BY h).2.2) k
def dA(V:y6 E.N.n d (cH G x)=some (Q (rI j) m))(k:RG E ops tD l O ((d,Q rB (m==n))::G)):RG E ops tD (⟨some d,.binOp .eql xt (.tmp x) (.const (.int j n)) yt,ty,pos,after,none⟩::l) O G:=zo (dP V).1 (zei (dP V).2) k
def gw(V:y6 E.N.n d (cH G x)=some (Q (rI j) m))(k:RG E ops tD l O ((d,Q rB (m !=n))::G)):RG E ops tD (⟨some d,.binOp .neq xt (.tmp x) (.const (.int j n)) yt,ty,pos,after,none⟩::l) O G:=zo (dP V).1 (zni (dP V).2) k
def qT{c:Bool}(V:cH G x=some (pK c (Q (rI j) m)))(hc:c=true):cu E O G ⟨dst,.binOp .eql xt (.tmp x) (.const (.int j n)) yt,ty,pos,after,g⟩ (Q rB (m==n)):=mb (db V hc) hI
def Et{c:Bool}(V:cH G x=some (pK c (Q (rI j) m)))(hc:c=true):cu E O G ⟨dst,.binOp .neq xt (.tmp x) (.const (.int j n)) yt,ty,pos,after,g⟩ (Q rB (m !=n)):=iO (db V hc) hI
def dq{i a c id:Nat}{z w:Code}(V:xs.drop i=[])(h:(y6 E.N.n d (cH G a),cH G b)=(some (Q (rI .i64) (i:Int)),some (Q (rI .i64) (xs.length:Int))))(k:AT E tD .normal O ((d,Q rB (decide ((i:Int)<(xs.length:Int))))::G))(hc:cH ((d,Q rB (decide ((i:Int)<(xs.length:Int))))::G) c=some (Q rB (decide ((i:Int)<(xs.length:Int)))):=by exact rfl):
  LG E (Exit.inBlock id tD) (.seq (.region id' [⟨some d,.binOp .lss xt (.tmp a) (.tmp b) yt,ty,pos,after,none⟩].toArray false) (.seq (.cond (.tmp c) z (.exit id)) w)) O G:=
 ig<|aQ<|wS h<|bI<|aC<|vV (J hc) (WX V)<|ji<|bh (bh (d5 k))
def dp{e:α}{i a c:Nat}{z w:Code}(V:xs.drop i=e::tl)(h:(y6 E.N.n d (cH G a),cH G b)=(some (Q (rI .i64) (i:Int)),some (Q (rI .i64) (xs.length:Int))))(k:CG E (Exit.then (CQ E.r E.P (.seq (.region id' [⟨some d,.binOp .lss xt (.tmp a) (.tmp b) yt,ty,pos,after,none⟩].toArray false) (.seq (.cond (.tmp c) .skip z) w)) tD) tD) w O ((d,Q rB (decide ((i:Int)<(xs.length:Int))))::G))(hc:cH ((d,Q rB (decide ((i:Int)<(xs.length:Int))))::G) c=some (Q rB (decide ((i:Int)<(xs.length:Int)))):=by exact rfl):
  LG E tD (.seq (.region id' [⟨some d,.binOp .lss xt (.tmp a) (.tmp b) yt,ty,pos,after,none⟩].toArray false) (.seq (.cond (.tmp c) .skip z) w)) O G:=
 ig<|aQ<|wS h<|bI<|aC<|vU (J hc) (Td V)<|iq k
end
def F7{y:α}{i:Int}(hu:E.P.underlying st=some (.slice e))(ti:TI E.P e sz bytes agg z)(h:(y6 E.N.n d (cH G x),cH G ix)=(some (Q (gM r) xs),some (Q (rI j) i)))(hy:cO xs i=some y)(k:RG E ops tD l O ((d,bH r y)::G))(hsz:r.sz=sz:=by exact rfl):
  RG E ops tD (⟨some d,.indexAddr st (.tmp x) (.tmp ix),ty,pos,after,none⟩::l) O G:=zo (BY h).1 (Ky hu ti hsz (BY h).2.1 (BY h).2.2 hy) k
def d8{y:α}{i:Int}{d2 p2:Nat}(hu:E.P.underlying st=some (.slice e))(ti:TI E.P e sz bytes agg z)(h:(y6 E.N.n d (cH G x),cH G ix)=(some (Q (gM r) xs),some (Q (rI j) i)))(hy:cO xs i=some y)(k:RG E ops tD l O ((d2,Q r y)::(d,bH r y)::G))(hsz:r.sz=sz:=by exact rfl)(hp2:y6 E.N.n d2 (cH ((d,bH r y)::G) p2)=some (bH r y):=by exact rfl)(hs:(r.sz,r.agg)=(sz,agg):=by exact rfl):
  RG E ops tD (⟨some d,.indexAddr st (.tmp x) (.tmp ix),ty,pos,after,none⟩::⟨some d2,.load e (.tmp p2),ty2,pos2,after2,none⟩::l) O G:=F7 hu ti h hy (bq ti hp2 k hs) hsz
def aW{set:α->β->α}{x:α}{y:β}{v:Nat}{ty:TypeId}(ti:TI E.P U sz bytes agg z)(hset:k7 r off q set)(h:(cH G p,cH G v)=(some (tV (aE b off)),some (Q q y)))(k:RG E ops tD l (bx r aj b (set x y)::O) G)(hsz:q.sz=sz:=by exact rfl)(hoff:Nat.ble (off+q.sz) r.sz=true:=by exact rfl):
  RG E ops tD (⟨none,.store U (.tmp p) (.tmp v),ty,pos,after,none⟩::l) (bx r aj b x::O) G:=dc ti hsz hset hoff (J (vf h).1) (J (vf h).2) k
def VG(n:Nat)(ops:Array Oper)(d j:Nat)(G:pC):Option Ty:=((ops[j]?).bind (·.dst)).bind fun gs=>y6 n gs (y6 n d (cH G gs))
def KD{d j:Nat}{ops:Array Oper}{t:Ty}(h:VG n ops d j G=some t): ∃gs,(ops[j]?).bind (·.dst)=some gs/\y6 n gs (y6 n d (cH G gs))=some t:=by
 unfold VG at h
 cases hg:(ops[j]?).bind (·.dst)with
 |none=>rw [hg]at h;cases h
 |some gs=>rw [hg]at h;exact⟨gs,rfl,h⟩
def bk{j:Nat}{b:Bool}(hg:VG E.N.n ops d j G=some (Q rB b))(h:b=true->cu E O G ⟨some d,op,ty,pos,after,some (j,true)⟩ t)(k:RG E ops tD l O ((d,pK b t)::G)):
  RG E ops tD (⟨some d,op,ty,pos,after,some (j,true)⟩::l) O G:=by obtain⟨gs,I,M⟩:=KD hg;exact zgt I M h k
def co{j:Nat}{b:Bool}(hg:VG E.N.n ops d j G=some (Q rB b))(h:(!b)=true->cu E O G ⟨some d,op,ty,pos,after,some (j,false)⟩ t)(k:RG E ops tD l O ((d,pK (!b) t)::G)):
  RG E ops tD (⟨some d,op,ty,pos,after,some (j,false)⟩::l) O G:=by obtain⟨gs,I,M⟩:=KD hg;exact zgf I M h k
section
variable{c:Bool}
def gK{x:α}(ti:TI E.P U sz bytes agg z)(hp:cH G p=some (pK c (bH r x)))(hs:(r.sz,r.agg)=(sz,agg))(hc:c=true):
  cu E O G ⟨dst,.load U (.tmp p),ty,pos,after,g⟩ (Q r x):=gO ti (vf hs).1 (vf hs).2 (db hp hc)
def gU{get:α->β}{x:α}{i:Nat}(hf:dv E.P aj i=some (off,sz))(hq:ro r off q get)(hp:cH G p=some (bH r x))(h0:(!(Nat.beq sz 0)&&Nat.ble (off+q.sz) r.sz)=true)(_:c=true):cu E O G ⟨dst,.fieldAddr aj (.tmp p) i,ty,pos,after,g⟩ (bH q (get x)):=mW hf hq hp h0
def fa(V:cH G x=some t)(_:c=true):cu E O G ⟨dst,.move (.tmp x),ty,pos,after,g⟩ t:=l0 V
def F8(V:cH G x=some (pK c t))(hc:c=true):cu E O G ⟨dst,.move (.tmp x),ty,pos,after,g⟩ t:=bQ (db V hc)
def vi(hu:E.P.underlying st=some (.slice e))(V:cH G x=some (pK c (Q (gM r) xs)))(hc:c=true):
  cu E O G ⟨dst,.call ⟨.builtin .len,#[.tmp x],#[st]⟩,ty,pos,after,g⟩ (Q (rI .i64) (xs.length:Int)):=oH hu (db V hc)
def yH{b:Bool}(V:cH G x=some (pK c (Q rB b)))(hc:c=true):cu E O G ⟨dst,.unOp .not xt (.tmp x),ty,pos,after,g⟩ (Q rB (!b)):=jj (db V hc)
end
def aS(h:y6 E.N.n d (cH G x)=some t)(k:CG E tD y O ((d,t)::G)):RG E ops (Exit.then (y.wpIn (fw E.r) 0 E.P tD) tD) [⟨some d,.assign (.tmp x),ty,pos,after,none⟩] O G:=iH h (bI k)
def cX(h:AT E tD .ret O G):RG E ops (Exit.then (Code.ret.wpIn (fw E.r) 0 E.P tD) tD) [] O G:=bI (jm h)
def bf(h:y6 E.N.n d (cH G x)=some t)(k:AT E tD .ret O ((d,t)::G)):RG E ops (Exit.then (Code.ret.wpIn (fw E.r) 0 E.P tD) tD) [⟨some d,.assign (.tmp x),ty,pos,after,none⟩] O G:=iH h (cX k)
def bc{id:Nat}{z:Code}(h:RG E l.toArray (Exit.then (y.wpIn (fw E.r) 0 E.P (Exit.then (z.wpIn (fw E.r) 0 E.P tD) tD)) (Exit.then (z.wpIn (fw E.r) 0 E.P tD) tD)) l O G):CG E tD (.seq (.seq (.region id l.toArray false) y) z) O G:=aC (aQ h)
def aD{id:Nat}(h:y6 E.N.n d (cH G x)=some t)(k:RG E ((⟨some d,.move (.tmp x),ty,pos,after,none⟩::l).toArray) (Exit.then (y.wpIn (fw E.r) 0 E.P tD) tD) l O ((d,t)::G)):
  CG E tD (.seq (.region id (⟨some d,.move (.tmp x),ty,pos,after,none⟩::l).toArray false) y) O G:=aQ (bj h k)
def cC{α β:Type _}{a:Option α}{f:α->Option β}{R:β}{xs:List Operand}{u:α->Ty}(h:a.bind f=some R)(hc:ak E.P fid=true)(hs: ∀{y},a=some y->bZ E.P fid ts (u y))(V:lI E.N G xs ts)(k: ∀y,f y=some R->RG E ops tD l O ((d,u y)::G))(hd:Nat.blt d E.N.n=true:=by exact rfl):RG E ops tD (⟨some d,.call ⟨.value (.func fid),xs.toArray,ats⟩,ty,pos,after,none⟩::l) O G:=
 cj h fun y hy h=>t7 (bG hc (hs hy) V) hd (k y h)
def pz{α β:Type _}{γ:Type}{a:Option α}{f:α->Option β}{R:β}{r:Rp γ}{zs:α->List γ}{xs:List Operand}(h:a.bind f=some R)(hc:ak E.P fid=true)(hs: ∀{y},a=some y->fE E.P fid ts false r aj (zs y))(V:lI E.N G xs ts)(k: ∀y,f y=some R-> ∀b cap,RG E ops tD l (eV r aj b cap (zs y)::O) ((d,tV (aY b cap (zs y).length))::G))(hd:Nat.blt d E.N.n=true:=by exact rfl):
  RG E ops tD (⟨some d,.call ⟨.value (.func fid),xs.toArray,ats⟩,ty,pos,after,none⟩::l) O G:=cj h fun y hy h=>abH hc (hs hy) V hd (k y h)
def cV{e:α}{i a d2 id:Nat}(V:xs.drop i=e::tl)(hN:xs.length<=maxLen)(h:y6 E.N.n d (cH G a)=some (Q (rI .i64) (i:Int)))(k:AT E tD .normal O ((d2,Q (rI .i64) ((i+1:Nat):Int))::(d,Q (rI .i64) ((i+1:Nat):Int))::G))(M:y6 E.N.n d2 (cH ((d,Q (rI .i64) ((i+1:Nat):Int))::G) b)=some (Q (rI .i64) ((i+1:Nat):Int)):=by exact rfl):
  AT E (Exit.inBlock id (Exit.then ((Code.region id' [⟨some d,.binOp .add xt (.tmp a) (.const (.int .i64 1)) yt,ty,pos,after,none⟩,⟨some d2,.move (.tmp b),ty2,pos2,after2,none⟩].toArray false).wpIn (fw E.r) 0 E.P tD) tD)) .normal O G:=
 bt<|aw<|aG<|zo (dP h).1 (zin (Te V hN) (dP h).2)<|bj M<|bD k
def NZ{e:α}{i a b2 d2 d3 id:Nat}{ty3:TypeId}{pos3:String}{after3:Array Edge}(V:xs.drop i=e::tl)(hN:xs.length<=maxLen)(h:y6 E.N.n d (cH G a)=some (Q (rI .i64) (i:Int)))(k:AT E tD .normal O ((d3,Q (rI .i64) ((i+1:Nat):Int))::(d2,Q (rI .i64) ((i+1:Nat):Int))::(d,Q (rI .i64) (i:Int))::G))(I:y6 E.N.n d2 (cH ((d,Q (rI .i64) (i:Int))::G) b)=some (Q (rI .i64) (i:Int)):=by exact rfl)(M:y6 E.N.n d3 (cH ((d2,Q (rI .i64) ((i+1:Nat):Int))::(d,Q (rI .i64) (i:Int))::G) b2)=some (Q (rI .i64) ((i+1:Nat):Int)):=by exact rfl):
  AT E (Exit.inBlock id (Exit.then ((Code.region id' [⟨some d,.move (.tmp a),ty,pos,after,none⟩,⟨some d2,.binOp .add xt (.tmp b) (.const (.int .i64 1)) yt,ty2,pos2,after2,none⟩,⟨some d3,.assign (.tmp b2),ty3,pos3,after3,none⟩].toArray false).wpIn (fw E.r) 0 E.P tD) tD)) .normal O G:=
 bt<|aw<|aG<|bj h<|zo (dP I).1 (zin (Te V hN) (dP I).2)<|iH M<|bD k
section
variable{e:α}{i a q1 q2 c d2 d3 d4 id:Nat}{ty3 ty4 u:TypeId}{pos3 pos4:String}{after3 after4:Array Edge}{z w:Code}
def ae8(i:Nat)(r:Rp α)(xs:List α)(d d2 d3 d4:Nat)(G:pC):pC:=(d4,Q rB (decide ((i:Int)<(xs.length:Int))))::(d3,Q (rI .i64) (xs.length:Int))::(d2,Q (gM r) xs)::(d,Q (rI .i64) (i:Int))::G
def ae7(hu:E.P.underlying st=some (.slice u))(V:xs.drop i=[])(h:(y6 E.N.n d (cH G a),y6 E.N.n d2 (cH ((d,Q (rI .i64) (i:Int))::G) b))=(some (Q (rI .i64) (i:Int)),some (Q (gM r) xs)))
    (k:AT E tD .normal O ((d4,Q rB (decide ((i:Int)<(xs.length:Int))))::(d3,Q (rI .i64) (xs.length:Int))::(d2,Q (gM r) xs)::(d,Q (rI .i64) (i:Int))::G))
    (H:(y6 E.N.n d3 (cH ((d2,Q (gM r) xs)::(d,Q (rI .i64) (i:Int))::G) p),y6 E.N.n d4 (cH ((d3,Q (rI .i64) (xs.length:Int))::(d2,Q (gM r) xs)::(d,Q (rI .i64) (i:Int))::G) q1),
      cH ((d3,Q (rI .i64) (xs.length:Int))::(d2,Q (gM r) xs)::(d,Q (rI .i64) (i:Int))::G) q2,cH (ae8 i r xs d d2 d3 d4 G) c)=(some (Q (gM r) xs),some (Q (rI .i64) (i:Int)),some (Q (rI .i64) (xs.length:Int)),some (Q rB (decide ((i:Int)<(xs.length:Int))))):=by exact rfl):
    LG E (Exit.inBlock id tD) (.seq (.seq (.region id' [⟨some d,.move (.tmp a),ty,pos,after,none⟩,⟨some d2,.move (.tmp b),ty2,pos2,after2,none⟩,⟨some d3,.call ⟨.builtin .len,#[.tmp p],#[st]⟩,ty3,pos3,after3,none⟩,⟨some d4,.binOp .lss xt (.tmp q1) (.tmp q2) yt,ty4,pos4,after4,none⟩].toArray false) (.cond (.tmp c) z (.exit id))) w) O G:=
  have h' :=vf h;have e1:=vf H;have e2:=vf e1.2;have e3:=vf e2.2
  ig<|aC<|aQ<|bj h'.1<|bj h'.2<|ca hu e1.1<|zo (dP e2.1).1 (zlt (dP e2.1).2 e3.1)<|bI<|vV (J e3.2) (WX V)<|ji<|bh (bh (d5 k))
def ae6(hu:E.P.underlying st=some (.slice u))(V:xs.drop i=e::tl)(h:(y6 E.N.n d (cH G a),y6 E.N.n d2 (cH ((d,Q (rI .i64) (i:Int))::G) b))=(some (Q (rI .i64) (i:Int)),some (Q (gM r) xs)))
    (k:CG E (Exit.then (CQ E.r E.P (.seq (.seq (.region id' [⟨some d,.move (.tmp a),ty,pos,after,none⟩,⟨some d2,.move (.tmp b),ty2,pos2,after2,none⟩,⟨some d3,.call ⟨.builtin .len,#[.tmp p],#[st]⟩,ty3,pos3,after3,none⟩,⟨some d4,.binOp .lss xt (.tmp q1) (.tmp q2) yt,ty4,pos4,after4,none⟩].toArray false) (.cond (.tmp c) .skip z)) w) tD) tD) w O
      ((d4,Q rB (decide ((i:Int)<(xs.length:Int))))::(d3,Q (rI .i64) (xs.length:Int))::(d2,Q (gM r) xs)::(d,Q (rI .i64) (i:Int))::G))
    (H:(y6 E.N.n d3 (cH ((d2,Q (gM r) xs)::(d,Q (rI .i64) (i:Int))::G) p),y6 E.N.n d4 (cH ((d3,Q (rI .i64) (xs.length:Int))::(d2,Q (gM r) xs)::(d,Q (rI .i64) (i:Int))::G) q1),
      cH ((d3,Q (rI .i64) (xs.length:Int))::(d2,Q (gM r) xs)::(d,Q (rI .i64) (i:Int))::G) q2,cH (ae8 i r xs d d2 d3 d4 G) c)=(some (Q (gM r) xs),some (Q (rI .i64) (i:Int)),some (Q (rI .i64) (xs.length:Int)),some (Q rB (decide ((i:Int)<(xs.length:Int))))):=by exact rfl):
    LG E tD (.seq (.seq (.region id' [⟨some d,.move (.tmp a),ty,pos,after,none⟩,⟨some d2,.move (.tmp b),ty2,pos2,after2,none⟩,⟨some d3,.call ⟨.builtin .len,#[.tmp p],#[st]⟩,ty3,pos3,after3,none⟩,⟨some d4,.binOp .lss xt (.tmp q1) (.tmp q2) yt,ty4,pos4,after4,none⟩].toArray false) (.cond (.tmp c) .skip z)) w) O G:=
  have h' :=vf h;have e1:=vf H;have e2:=vf e1.2;have e3:=vf e2.2
  ig<|aC<|aQ<|bj h'.1<|bj h'.2<|ca hu e1.1<|zo (dP e2.1).1 (zlt (dP e2.1).2 e3.1)<|bI<|vU (J e3.2) (Td V)<|iq k
end
end
section
variable{l:List Oper}
def kq(r:Rp α)(k:RG E ops tD l O ((d,Q (gM r) [])::G))(hd:Nat.blt d E.N.n=true:=by exact rfl):RG E ops tD (⟨some d,.assign (.const (.slice none 0 0)),ty,pos,after,none⟩::l) O G:=zo hd (bu JB) k
def cn{β:Type _}{X aa:Option β}{r:β}{c:Nat}{x:Code}{b:Bool}(h:(if b=true then X else aa)=some r)(H:cH G c=some (Q rB b))(V:X=some r->CG E tD x O G)(hy:aa=some r->CG E tD y O G):
  RG E ops (Exit.then ((Code.cond (.tmp c) x y).wpIn (fw E.r) 0 E.P tD) tD) [] O G:=bI (px h H V hy)
def cR{id:Nat}{K:Act->World->Prop}(h:AT E tD .ret O G):AT E (Exit.inBlock id (Exit.then K tD)) .ret O G:=tz (am h)
def dd{n:Int}(k:AT E tD .ret O ((d,Q (rI j) n)::G))(hd:Nat.blt d E.N.n=true:=by exact rfl):RG E ops (Exit.then (Code.ret.wpIn (fw E.r) 0 E.P tD) tD) [⟨some d,.assign (.const (.int j n)),ty,pos,after,none⟩] O G:=zo hd zai (cX k)
def cx{t:Ty}(hf:P.funcs[f]? =some fn)(H:(fn.body,fn.ntmps,Nat.ble ts.length fn.ntmps)=(some c,N,true))(h: ∀{w0 S0},CG ⟨P,⟨N,[]⟩,vz,w0,S0,none⟩ (bodyPost P fn (Tb ⟨P,⟨N,[]⟩,vz,w0,S0,none⟩ t)) c [] (xH 0 ts)):bZ P f ts t:=by
 obtain⟨I,M⟩:=vf H;obtain⟨M,h3⟩:=vf M;subst M;exact bZ.of hf I rfl h3 fun _ _=>h
section
variable{i:Nat}
def air{G:pC}{k:Nat}{t:Ty}:cH ((k,t)::G) k=some t:=by simp [cH]
def eX(h:ts[i]? =some u)(hu:cH G x=some u)(H:([(⟨x,u,none⟩:Nd)].all (wk l ⟨dst,.move (.tmp x),ty,pos,after,g⟩ i)&&jZ i ⟨dst,.move (.tmp x),ty,pos,after,g⟩&&g.isNone)=true:=by exact rfl):
  ∃(needs:List Nd) (t:Ty),ts[i]? =some t/\AX G ts needs/\(needs.all (wk l ⟨dst,.move (.tmp x),ty,pos,after,g⟩ i))=true/\jZ i ⟨dst,.move (.tmp x),ty,pos,after,g⟩=true/\bF E O l.toArray (oO needs) ⟨dst,.move (.tmp x),ty,pos,after,g⟩ t:=
 oq x h hu (l0 air) H
def fm{v:α}(j:Nat)(ti:TI E.P U sz bytes agg z)(h:ts[i]? =some (Q r v))(hu:ts[j]? =some (bH r v))(hs:(r.sz,r.agg)=(sz,agg):=by exact rfl)(H:([(⟨x,bH r v,some j⟩:Nd)].all (wk l ⟨dst,.load U (.tmp x),ty,pos,after,g⟩ i)&&jZ i ⟨dst,.load U (.tmp x),ty,pos,after,g⟩&&g.isNone)=true:=by exact rfl):
  ∃(needs:List Nd) (t:Ty),ts[i]? =some t/\AX G ts needs/\(needs.all (wk l ⟨dst,.load U (.tmp x),ty,pos,after,g⟩ i))=true/\jZ i ⟨dst,.load U (.tmp x),ty,pos,after,g⟩=true/\bF E O l.toArray (oO needs) ⟨dst,.load U (.tmp x),ty,pos,after,g⟩ t:=
 dy x j h hu (np ti air hs) H
end
end
def aiI(n:Nd):NS:=⟨n.slot,fun _=>n.ty,n.src⟩
def Tc(n:Nat):GV (List.replicate n false)=[]:=by
 unfold GV;refine Iy.2 fun k hk=>?_;rw [List.getElem?_replicate];split<;>simp
def tcs{E:En}{O:List OE}{G:pC}{L:List Oper}{ts:List Ty}{n:Nat}: ∀(r:List Oper) (k:Nat),(∀o∈r,o.dst.isSome=true)->DR E O G L ts k r->DT E G L (ts.map tc) [([],fun _=>O)] (List.replicate n false) k r (List.replicate r.length false)
 |[],_,_,_=>trivial
 |o::r,k,hd,⟨⟨needs,t,I,M,h3,h4,h5⟩,h⟩=>by
  refine⟨⟨needs.map aiI,tc t,[[]],by simp [I],?_,by rw [List.all_map];exact h3,h4,rfl,?_,hd o (.head _),⟨fun σ=>?_,trivial⟩⟩,tcs r (k+1) (fun o ho=>hd o (.tail _ ho)) h⟩
  ·clear h3 h5
   induction needs with
   |nil=>trivial
   |cons n l ih=>
    refine⟨?_,ih M.2⟩;have:=M.1;unfold Df at this;unfold ae1;show match n.src with|some j=>_|none=>_
    split<;>rename_i hs<;>rw [hs]at this
    ·exact fun σ=>by simp [this];rfl
    ·exact fun σ=>this
  ·unfold TY;rw [Tc];simp [KO,eqL]
  ·have:IP (needs.map aiI) σ=oO needs:=by unfold IP;rw [vZ];exact congrArg oO ((ET fun _ _=>rfl).trans (List.map_id _))
   rw [this];exact h5
def RD{N:Nat}: ∀(l:List Oper) (seen:List Nat),KT N seen l=true->Cz N seen l=true/\ ∀o∈l,o.dst.isSome=true
 |[],_,_=>⟨rfl,fun _ h=>by cases h⟩
 |o::r,seen,h=>by
  unfold KT at h;unfold Cz
  cases hd:o.dst with
  |none=>rw [hd]at h;cases h
  |some d=>
   rw [hd]at h;simp only [iX]at h ⊢;obtain⟨I,M⟩:=RD r _ h.2;exact⟨⟨h.1,I⟩,fun p hp=>by cases hp with|head=>rw [hd];rfl|tail _ hp=>exact M p hp⟩
def afh{G:pC}: ∀(l:List Oper) (ts:List Ty),(∀o∈l,o.dst.isSome=true)->Nu l ts G=UA l ts G
 |[],_,_=>by unfold Nu UA;rfl
 |o::l,[],_=>by unfold Nu UA;rfl
 |o::l,t::ts,h=>by
  unfold Nu UA ajo;rw [afh l ts fun o ho=>h o (.tail _ ho)];have:=h o (.head _)
  cases hd:o.dst with
  |none=>rw [hd]at this;cases this
  |some d=>rfl
def Cb{id:Nat}(m:Nat)(hm:E.P.follows .mixedOrders=true)(hsl:KT E.N.n [] (L.take m)=true)(hlen:ts.length=(L.take m).length)(J:VL L (L.take m).length (L.drop m).length=true)(hd:DR E O G L ts 0 (L.take m))(k:RG E L.toArray tD (L.drop m) O (UA (L.take m) ts G)):CG E tD (.region id L.toArray true) O G:=by
 obtain⟨h0,hs⟩:=RD _ _ hsl;refine jQ m (ts.map tc) (List.replicate (L.take m).length false) [([],fun _=>O)] (fun _=>rfl) hm h0 (by simpa using hlen) (by simp) J (tcs _ 0 hs hd) fun σ=>?_;have:tsS (ts.map tc) σ=ts:=by unfold tsS;rw [vZ];exact(ET fun _ _=>rfl).trans (List.map_id _)
 rw [Tc,this,afh _ _ hs];exact k
def nQ{id:Nat}{l:List Oper}(hm:E.P.follows .mixedOrders=true)(hsl:KT E.N.n [] l=true)(hlen:ts.length=l.length)(hd:DR E O G l ts 0 l)(k:AT E tD .normal O (UA l ts G)):
  CG E tD (.region id l.toArray true) O G:=by
 have e:l.take l.length=l:=DZ;have e' :l.drop l.length=[]:=Re;exact Cb l.length hm (by rw [e];exact hsl) (by rw [e];exact hlen) (by rw [e'];rfl) (by rw [e];exact hd) (by rw [e,e'];exact bD k)
