import Derived.Test.YtdohlidddcgfjaaGreatFgV3
import Derived.Test.YtdohlidddcgfjaaGreatFgV2
import Derived.WideKeyRuns
import Derived.Test.YtdohlidddcgfjaaGreatFgV1
import Derived.WideKeyEntry
import Derived.Shelf.GgSortFunc.Insertion
import Derived.Shelf.Slices.In.SortNone
set_option linter.all false
namespace Go.Proofs.YtdohlidddcgfjaaGreat
open Go
def rPt{α:Type}(r:Rp α):Rp α where
 sz:=1
 agg:=false
 rc:=fun S cs x=> ∃v,cs=[v]/\(da r x).p S v
 mono:=fun h ⟨v,e,k⟩=>⟨v,e,(da r _).mono h k⟩
 len:=fun⟨_,e,_⟩=>by rw [e];rfl
 one:=fun⟨v,e,b,off,c,U,fr,h,_⟩ c' hc=>by rw [e]at hc;simp at hc;subst hc;rw [h];rfl
 sc:=fun _=>rfl
variable{S:SH}{α:Type}{r:Rp α}{v:Operand}{w:World}{x:Operand}
def XT{x:α}{v:Value}:(tD (rPt r) x).p S v↔(da r x).p S v:=by
 constructor
 ·rintro⟨cs,rfl,w,rfl,h⟩;exact h
 ·intro h;exact⟨[v],rfl,v,rfl,h⟩
variable{T:TypeId}{b:Nat}{β:Type}{q:Rp α}{y:Operand}
def ado{rd:Rp β}{x:α}{y:β}(h:(s r T b x).p w S)(hs:oF w S)(cv: ∀cs,r.rc S cs x->rd.rc S cs y): ∃S1,SH.le S S1/\oF w S1/\(da rd y).p S1 (M b 0):=by
 obtain⟨hn,c,W,h3⟩:=h;have hle:SH.le S (S.set b (.cells c T (0,0))):=yV fun q hq=>(by rw [hn]at hq;cases hq);have hsat:oF w (S.set b (.cells c T (0,0))):=hs.set W (wZ _) fun q hq=>by rw [hn]at hq;cases hq
 have h4:=cv _ h3;have hl:c.toList.length=rd.sz:=rd.len h4;refine⟨_,hle,hsat,b,0,c,T,(0,0),rfl,pi _ _ _,?_⟩;rw [yf,yi (by omega)];exact rd.mono hle h4
variable{E:En}{G:ou}{N:Fr}{aO:List OE}{after:Array Edge}{ats:Array TypeId}{dst:Option Tmp}{el:TypeId}{g:Option (Nat×Bool)}{i:Operand}{k:Nat}{κ:Type}{m:List (κ×β)}{n off:Nat}{pos:String}{t ty:TypeId}{xs ys:List α}{γ:β->Ty}
section
def VK{f:FuncId}{xs:List Operand}{ts:List Ty}{t:Ty}{rd:Rp β}{x:α}{y:β}(hm:s r T b x∈aO)(hc:aj E.P f=true)(hs:dk E.P f ts t)(cv: ∀w S cs,gm E.base E.B w S aO->r.rc S cs x->rd.rc S cs y)(K: ∀(S S1:SH) (a:Act),cD E.N S a G->SH.le S S1->(da rd y).p S1 (M b 0)->Au S1 ts (xs.map a.eval))(htf: ∀(S S' :SH) (v:Value),t.p S v->t.p S' v):
  dw E aO G ⟨dst,.call ⟨.value (.func f),xs.toArray,ats⟩,ty,pos,after,g⟩ t:=fun a w S hS hO hF=>by
 have hr:(execOp a.eval ⟨dst,.call ⟨.value (.func f),xs.toArray,ats⟩,ty,pos,after,g⟩).run E.P w= .ok (.enter f (xs.map a.eval).toArray) w:=by
  simp [execOp,resolve,Act.eval,Deferred.ofValue,invoke,k7 hc]
 refine⟨fun c h=>(by cases h),?_⟩;rw [hr];obtain⟨S1,k1,k2,k3⟩:=ado (gm.mem hO _ hm).1 hS (fun cs h=>cv w S cs hO h);exact(hs w S1 _ k2 (K S S1 a hF k1 k3)).mono fun e w' ⟨v,S',he,H,W,h3⟩=>⟨v,he,v,S,rfl,
  ⟨H.os,H.tape,H.output,H.drawn,H.size,H.heap,SH.le_refl _,fun _ _ _=>rfl⟩,hS.same fun b o k=>H.heap b (hS.lt k) (fun V=>V),htf S' S v h3⟩
def tf(t:Nat->Ty):Ty where
 p:=fun S v=> ∀b,(t b).p S v
 mono:=fun h k b=>(t b).mono h (k b)
def HT{o:Operand}{t:Nat->Ty}(h: ∀b,bk N G o (t b)):bk N G o (tf t):=fun S a hf b=>h b S a hf
def adq{o:Operand}{t:Nat->Ty}(b:Nat)(h:bk N G o (tf t)):bk N G o (t b):=fun S a hf=>h S a hf b
def wQ{γ:Type}{r' :Rp γ}{q:Rp β}{hs hs' :HL}{x:α}{x' :γ}{y:β}(h:sy r r' off q x y x')(hk:HOK hs off q.sz none hs')(hoff:Nat.ble (off+q.sz) r.sz=true):sy (rH r hs) (rH r' hs') off q x y x' :=fun S cs ds H W=>by
 refine⟨h S cs ds H.1 W,fun p hp=>?_⟩;rcases hk.all p hp with⟨e,_⟩|⟨g1,g2⟩
 ·cases e
 ·have hl:=r.len H.1;rw [yc (q.len W) (by have:=vq hoff;omega) g2];exact H.2 _ (yQ g1)
def XF{γ:Type}{r' :Rp γ}{x:α}{x' :γ}{hs:HL}{cs:List Value}(h:(rH r hs).rc S cs x)(k:r.rc S cs x->r'.rc S cs x'):(rH r' hs).rc S cs x' :=⟨k h.1,h.2⟩
def Gx(hq:q.sz=1){cs:List Value}{m:Nat}(h:uI q S cs xs)(hm:m<=xs.length):uI q S (cs.take m) (xs.take m)/\uI q S (cs.drop m) (xs.drop m):=by
 have:=tI (xs:=xs.take m) (ys:=xs.drop m) (by rw [vX];exact h)
 rwa [Ca,Aw hm,hq,Dt]at this
def sw{α:Type}(xs ys:List α):List α:=ys.take xs.length++xs.drop (min ys.length xs.length)
def wt:(sw xs ys).length=xs.length:=by
 unfold sw;simp;omega
def NU{p:Operand}(hu:E.P.underlying T=some (.array n el))(hs:((E.P.info? el).map (·.size)).isSome=true)(hp:bk E.N G p (Q (M b 0))):
  dw E aO G ⟨dst,.slice T p none none none,ty,pos,after,g⟩ (Q (.slice (some ⟨b,0,none⟩) n n)):= .of_pure fun a w S _ _ hf=>by
 have H:a.eval p=M b 0:=hp S a hf
 cases hq:E.P.info? el with
 |none=>simp [hq]at hs
 |some i=>exact⟨_,by simp [execOp,H,M,Instr.sliceAt,mb hu,Instr.sureAddr,Instr.sliceBounds,sizeOf,typeInfo,hq,Result.andThen];intro _;rfl,rfl⟩
end
variable{P:Program}{tV:Exit->Act->World->Prop}{U:TypeId}{agg:Bool}{bytes cap d:Nat}{dT:TypeId}{gs:Nat}{hi:Int}{j:Nat}{l:Option Nat}{lo:Int}{mm:Bool}{op:Op}{ops:Array Oper}{pol:Bool}{rest:List Oper}{sT:TypeId}{sz:Nat}{z:List Value}
section
variable{c:Code}
def Um(hq:q.sz=1)(hu:E.P.underlying dT=some (.slice el))(hs:(E.P.info? el).map (·.size)=some 1)(K:bk E.N G x (Q (.slice (some ⟨b,0,none⟩) n n)))(hy: ∀a w S,oF w S->gm E.base E.B w S (s (pP q n) T b xs::aO)->cD E.N S a G-> ∃S1,oF w S1/\(tD (gE q) ys).p S1 (a.eval y)/\ ∀cs zs,uI q S1 cs zs->uI q S cs (zs:List α)):
  EffOK E (s (pP q n) T b xs::aO) G ⟨some d,.call ⟨.builtin .copy,#[x,y],#[dT,sT]⟩,ty,pos,after,g⟩ (fun _=>s (pP q n) T b (sw xs ys)::aO) (fun _=>tD (rI .i64) ((min ys.length n:Nat):Int)):=fun a w S hs0 ho hf V=>by
 have H:a.eval x= .slice (some ⟨b,0,none⟩) n n:=K S a hf;obtain⟨S1,hS1,hy1,hback⟩:=hy a w S hs0 ho hf;obtain⟨ad,cap,W,_,_,h3⟩:=ku.1 hy1;obtain⟨⟨hno,cur,h5,h6,h7⟩,_⟩:=ho.1;have hcl:cur.toList.length=n:=by rw [mv h7,hq,h6,Dt]
 have hm:min ys.length n<=ys.length:=Nat.min_le_left _ _;obtain⟨cs,hcs,hrun,hlen⟩: ∃cs,uI q S cs (ys.take (min ys.length n))/\(Builtin.copy_ #[dT,sT] ty #[.slice (some ⟨b,0,none⟩) n n,a.eval y]).run E.P w= .ok (goInt cs.length) (w.setRow b (cs++cur.toList.drop cs.length).toArray)/\cs.length=min ys.length n:=by
  rw [W];rcases h3 with rfl|⟨b',off,c,T',fr,rfl,e2,e3⟩
  ·refine⟨[],by simp [uI],?_,by simp⟩
   cases hel:E.P.info? el with
   |none=>simp [hel]at hs
   |some i=>
    have hi:i.size=1:=by simpa [hel] using hs
    have hself:w.setRow b (([]:List Value)++cur.toList.drop ([]:List Value).length).toArray=w:=by simpa using setRow_self w b cur T (0,0) h5
    rw [hself]
    cases ad with
    |none=>simp [Builtin.copy_,mb hu,Builtin.lenOf,Builtin.firstCells,sizeOf,typeInfo,hel,hi,storeCells]
    |some p=>
     have hl:=run_loadCells_list (P:=E.P) w p [] (fun j v hv=>by simp at hv);simp only [yg]at hl;simp [Builtin.copy_,mb hu,Builtin.lenOf,Builtin.firstCells,sizeOf,typeInfo,hel,hi,storeCells,hl]
  ·obtain⟨c',h8,h9⟩:=hS1.part e2 (mv e3);obtain⟨d1,d2⟩:=Gx hq e3 hm;rw [CJ,hq,Dt,Aw hm]at d1;have hl:((c.toList.drop off).take (min ys.length n)).length=min ys.length n:=by
    rw [mv d1,hq,Dt,Ca,Aw hm]
   have hcs:cur.size=n:=by simpa using hcl
   refine⟨_,hback _ _ d1,?_,hl⟩;have:=run_copy_row (P:=E.P) w dT sT ty el b 0 n n ⟨b',off,none⟩ ys.length cap cur T ((c.toList.drop off).take (min ys.length n)) hu hs h5 hl (fun j v hv=>?_) (by rw [hl];omega) (BH d1)
   ·simpa using this
   ·have hj:j<min ys.length n:=by rw [<-hl];exact(vK.1 hv).1
    have hcell:w.cell? ⟨b',off+j,none⟩=c'[off+j]? :=zW h8 _;rw [kL];show w.cell? ⟨b',off+j,none⟩=_;rw [hcell];have h10:((c'.toList.drop off).take (ys.length*q.sz))[j]? =((c.toList.drop off).take (ys.length*q.sz))[j]? :=by rw [h9]
    rw [Cd (by rw [hq];omega),Cd (by rw [hq];omega),zb,zb]at h10;rw [Cd hj,zb]at hv;rw [<-hv,<-Array.getElem?_toList,h10]
 have hx' :(execOp a.eval ⟨some d,.call ⟨.builtin .copy,#[x,y],#[dT,sT]⟩,ty,pos,after,g⟩).run E.P w= .ok (.value (goInt cs.length)) (w.setRow b (cs++cur.toList.drop cs.length).toArray):=by
  simp [execOp,resolve,H,invoke,builtin,hrun]
 refine⟨fun c h=>(by cases h),?_⟩;rw [hx'];have hle:min ys.length n<=xs.length:=by rw [h6];exact Nat.min_le_right _ _
 obtain⟨_,d4⟩:=Gx hq h7 hle;have hnew:(pP q n).rc S (cs++cur.toList.drop cs.length) (sw xs ys):=by
  refine⟨by rw [wt];exact h6,?_⟩;unfold sw;rw [h6,hlen];have e1:ys.take n=ys.take (min ys.length n):=by
   rw [List.take_eq_take_iff];omega
  rw [e1];exact uU hcs d4
 obtain⟨g1,g2,g3⟩:=qm (aO:=aO) hs0 (w' :=w.setRow b (cs++cur.toList.drop cs.length).toArray) (s (pP q n) T b xs) (s (pP q n) T b (sw xs ys)) ho (fun _=>qW) (fun _=>qW) ⟨rfl,rfl,rfl,by simp [World.setRow],kE _⟩ (fun k hk=>setRow_other w b k _ hk) ⟨hno,_,setRow_heap w b cur _ T _ h5,by simpa using hnew⟩ hno;refine⟨_,S,fe,rfl,g1.more fun k hk=>⟨_,jO ..,hk⟩,g2,g3,?_⟩;rw [hlen];exact fH.2 rfl
def S4(hs:dr xs lo hi=some ys)(h:Dj mm r U l cap xs w S)(hS:oF w S): ∃S1,oF w S1/\(tD (gE r) ys).p S1 (qw r.sz l cap lo.toNat ys.length):=by
 obtain⟨S1,_,k2,hd⟩:=afP h hS;refine⟨S1,k2,?_⟩;obtain⟨l',m,rfl,rfl,h7,h8,rfl⟩:=gR hs;obtain⟨ad,c,H,W,h3,h4⟩:=ku.1 hd;have hlen:((xs.take m).drop l').length=m-l' :=by simp;omega
 cases l with
 |none=>
  obtain⟨cells,g1,_⟩:=h;have K:xs=[]:=vM g1.1;subst K;have e:((([]:List α).take m).drop l')=[]:=by simp
  rw [e];exact K0
 |some b=>
  have e1:Value.slice (some ⟨b,0,none⟩) xs.length cap= .slice ad xs.length c:=H;injection e1 with e2 _ e3;subst e2;subst e3;have h5:=wP h4 h7 h8 W;refine ku.2 ⟨_,cap-l',?_,by omega,by omega,h5⟩;unfold qw;simp only [Cb,hlen,nq,kL,yA];split<;>rfl
def Mc{k:IntKind}{xs ys zs:List Int}(hm:o5 mm (rI k) U l cap zs∈s (pP (rI k) n) T b xs::aO)(hsl:dr zs lo hi=some ys)(hu:E.P.underlying dT=some (.slice el))(hs:(E.P.info? el).map (·.size)=some 1)(K:bk E.N G x (Q (.slice (some ⟨b,0,none⟩) n n)))(hy:bk E.N G y (Q (qw 1 l cap lo.toNat ys.length))):
  EffOK E (s (pP (rI k) n) T b xs::aO) G ⟨some d,.call ⟨.builtin .copy,#[x,y],#[dT,sT]⟩,ty,pos,after,g⟩ (fun _=>s (pP (rI k) n) T b (sw xs ys)::aO) (fun _=>tD (rI .i64) ((min ys.length n:Nat):Int)):=
 Um rfl hu hs K fun a w S hs0 ho hf=>by
  obtain⟨S1,H,W⟩:=S4 hsl (gm.mem ho _ hm).1 hs0;refine⟨S1,H,?_,fun cs zs h=>by rw [DV h];exact(DV h)▸Nu (fun h=>h) h⟩;rw [show a.eval y=qw 1 l cap lo.toNat ys.length from hy S a hf];exact W
def Vn{α:Type}(r:Rp α)(y:α)(b:Nat)(t:Ty):Ty where
 p:=fun S v=> ∀S1,SH.le S S1->(da r y).p S1 (M b 0)->t.p S1 v
 mono:=fun h k S1 H=>k S1 (SH.le_trans h H)
def XO{y:α}{t:Ty}{S1:SH}{a:Act}(h:bk N G x (Vn r y b t))(hf:cD N S a G)(hle:SH.le S S1)(hk:(da r y).p S1 (M b 0)):t.p S1 (a.eval x):=h S a hf S1 hle hk
def LB{γ:Type}{r:Rp γ}{z:γ}{args:α->List Ty}{res:β->Ty}{f:α->Option β}{fid:FuncId}{caps:List Operand}{cts:List Ty}(hc:aj E.P fid=true)(hcap: ∀(S S1:SH) (a:Act),cD E.N S a G->SH.le S S1->(da r z).p S1 (M b 0)->Au S1 cts (caps.map a.eval))(hs: ∀x y,f x=some y->dk E.P fid (args x++cts) (res y)):dw E aO G ⟨dst,.makeFunc (.func fid) #[] caps.toArray,ty,pos,after,g⟩ (Vn r z b (nL E.P args res f)):=
 .of_pure fun a w S _ _ hf=>by
  refine⟨.func (.func fid) #[] (caps.map a.eval).toArray,by simp [execOp,Instr.makeFunc],fun S1 H hk=>⟨fid,_,rfl,hc,fun x y h w' S' vs hle hsat hv=>?_⟩⟩;have hcv:=(hcap S S1 a hf H hk).mono hle;simpa using hs x y h w' S' _ hsat (hv.append hcv)
def Q0{y:α}{S1:SH}{a:Act}(h:bk N G x (da (rT (Q (M b 0))) ()))(hf:cD N S a G)(hle:SH.le S S1)(hk:(da r y).p S1 (M b 0)):(da (rPt r) y).p S1 (a.eval x):=by
 obtain⟨b',off,c,E',fr,H,W,v,h3,_,h4⟩:=(da (rT (Q (M b 0))) ()).mono hle (h S a hf);have h4' :v=M b 0:=h4;subst h4';exact⟨b',off,c,E',fr,H,W,_,h3,hk⟩
def KZ(ti:TI P T sz bytes agg z):(P.info? T).map (·.size)=some sz:=by
 obtain⟨i,_,hi,hs,_⟩:=ti.get;simp [hi,hs]
def XQ(ti:TI P T sz bytes agg z):((P.info? T).map (·.size)).isSome=true:=by rw [KZ ti];rfl
def TA{α:Type}:Rp α where
 sz:=1
 agg:=false
 rc:=fun _ cs _=> ∃v,cs=[v]/\v.oneCell' =true
 mono:=fun _ h=>h
 len:=fun⟨v,h,_⟩=>by rw [h];rfl
 one:=fun⟨v,h,k⟩ c hc=>by rw [h]at hc;simp at hc;subst hc;exact k
 sc:=fun _=>rfl
def afQ{u:Value}{y:α}(h:bk N G x (Q u))(ho:u.oneCell' =true):bk N G x (tD TA y):=fun S a hf=>by
 have H:a.eval x=u:=h S a hf;rw [H];exact⟨[u],rfl,u,rfl,ho⟩
def NO{c:Nat}:(aI l c n).oneCell' =true:=by cases l<;>rfl
def Rh{j:Int}{o:Oper}{post:OI->List OE}{t:OI->Ty}(h:dr xs 0 j=some ys)(k:EffOK E (d5 r U l cap ys::aO) G o post t):EffOK E (d5 r U l cap xs::aO) G o post t:=fun a w S hs ho hf V=>by
 have H:gm E.base E.B w S (d5 r U l cap ys::aO):=⟨⟨SJ h ho.1.1,ho.1.2⟩,ho.2.1,ho.2.2⟩;refine qn (fun a' w' ⟨v,S',x,g1,g2,g3,g4,g5⟩=>⟨v,S',x,g1,g2.more fun b ⟨f,hf,V⟩=>?_,g3,g4,g5⟩) (k a w S hs H hf V);rcases ll.1 hf with rfl|hf
 ·exact⟨_,jO ..,V⟩
 ·exact⟨f,kX _ hf,V⟩
def Mz(hm:o5 mm r T l cap xs∈aO)(hs:dr xs lo hi=some ys)(h:(l=none->ys.length=0)/\ys.length<=maxLen->CG E tV c aO G):CG E tV c aO G:=fun a w S st=>by
 refine h ?_ a w S st;obtain⟨cells,H,_⟩:=(st.own.mem _ hm).1;obtain⟨l',m,_,_,_,h8,rfl⟩:=gR hs;have hlen:((xs.take m).drop l').length<=xs.length:=by simp;omega
 cases l with
 |none=>have:=H.1;exact⟨fun _=>by omega,by omega⟩
 |some b=>obtain⟨cur,_,g2,g3,_⟩:=H;exact⟨fun h=>(by cases h),by omega⟩
def hBc{b:Bool}:bk N G (.const (.bool b)) (tD rB b):=hB
def xh(b:Bool){l:List Oper}(H:b=true->RG E ops tV l aO G)(W:b=false->RG E ops tV l aO G):RG E ops tV l aO G:=by
 cases b with
 |true=>exact H rfl
 |false=>exact W rfl
def iW{d:Option Tmp}{b:Bool}(hj:(ops[j]?).bind (·.dst)=some gs)(hgs:Nat.blt gs E.N.n=true)(V:cX G gs=some (tD rB b))(e:b=pol)(k:RG E ops tV (⟨d,op,ty,pos,after,none⟩::rest) aO G):
  RG E ops tV (⟨d,op,ty,pos,after,some (j,pol)⟩::rest) aO G:=fun a w S st=>by
 have hgs' :gs<a.tmps.size:=by rw [st.facts.size];simpa [ye] using hgs
 have hw:=wK (o:=⟨d,op,ty,pos,after,some (j,pol)⟩) rfl hj hgs' (tP V S a st.facts);have H:=k a w S st;unfold wpListIn at H ⊢;rw [hw,e];rw [bM (show Region.wanted ⟨d,op,ty,pos,after,none⟩ (yielded ops a.tmps)=true from rfl)]at H;rw [bM (show(true&&(pol==pol))=true from by simp)];exact H
def tM{c:Operand}{b:Bool}{t:Ty}(hc:bk E.N G c (tD rB b))(e:b=true)(K:bk E.N G x t):dw E aO G ⟨dst,.pick c x y,ty,pos,after,g⟩ t:=BO hc (fun _=>K) (fun h=>by rw [e]at h;cases h)
def rX{c:Operand}{b:Bool}{t:Ty}(hc:bk E.N G c (tD rB b))(e:b=false)(hy:bk E.N G y t):dw E aO G ⟨dst,.pick c x y,ty,pos,after,g⟩ t:=BO hc (fun h=>by rw [e]at h;cases h) (fun _=>hy)
end
def EZ(P:Program)(fn:Func)(h' i j k:Nat)(h:fn.results= #[.tmp h',.tmp i,.tmp j,.tmp k])(tmps:Array Value)(w:World):(results fn tmps).run P w= .ok (.tuple #[tmps.getD h' undef,tmps.getD i undef,tmps.getD j undef,tmps.getD k undef]) w:=by
 simp [results,h]
def SS{N:Nat}{B:Nat->Prop}{w0:World}{S0:SH}{fn:Func}{m i:Nat}{bx t u v:Ty}(hr:fn.results= #[.tmp m,.tmp i,.tmp j,.tmp k])(hm:cX G m=some bx)(hi:cX G i=some t)(hj:cX G j=some u)(hk:cX G k=some v):
  AT ⟨P,⟨N,[]⟩,B,w0,S0,none⟩ (bodyPost P fn (Mb ⟨P,⟨N,[]⟩,B,w0,S0,none⟩ (tT [bx,t,u,v]))) .ret aO G:=fun _ _ S st=>
 ⟨st.facts.defers,_,EZ P fn m i j k hr _ _,_,S,rfl,st.ext,st.sat,[_,_,_,_],rfl,st.facts.at_ m bx hm,st.facts.at_ i t hi,st.facts.at_ j u hj,st.facts.at_ k v hk,trivial⟩
section
def GC{o:Nat}{yt e:TypeId}(D:E.P.underlying t=some (.pointer e))(K:bk E.N G x (Q (M b o))):dw E aO G ⟨dst,.binOp .eql t x (.const (.pointer none)) yt,ty,pos,after,g⟩ (tD rB false):=
 .of_pure fun a w S _ _ hf=>by
  have H:a.eval x=M b o:=K S a hf;have h3:(Op.equal t (M b o) (.pointer none)).run E.P w= .ok false w:=BA fun d=>by simp [Op.equalIn,mb D,M]
  have hcn:a.eval (.const (.pointer none))= .pointer none:=rfl;refine⟨.bool false,?_,ko.2 rfl⟩;unfold M at H h3;simp [execOp,H,hcn,eqGuard,binOp,h3]
def Ha(n:FuncId)(fts:List Ty):Ty where
 p:=fun S v=> ∃fst:List Value,v= .func (.func n) fst.toArray #[]/\Au S fts fst
 mono:=fun h ⟨cap,e,k⟩=>⟨cap,e,Au.mono h k⟩
def uW{fid:FuncId}{fst:List Operand}{fts:List Ty}(hf:nD E.N G fst fts):dw E aO G ⟨dst,.makeFunc (.func fid) fst.toArray #[],ty,pos,after,g⟩ (Ha fid fts):=
 .of_pure fun a w S _ _ hF=>⟨.func (.func fid) (fst.map a.eval).toArray #[],by simp [execOp,Instr.makeFunc],_,rfl,hf.tys hF⟩
end
section
def fG{b:Bool}(hj:(ops[j]?).bind (·.dst)=some gs)(hgs:Nat.blt gs E.N.n=true)(V:cX G gs=some (tD rB b))(e:b= !pol)(hd:Nat.blt d E.N.n=true)(k:RG E ops tV rest aO ((d,rM false (tD rB true))::G)):
  RG E ops tV (⟨some d,op,ty,pos,after,some (j,pol)⟩::rest) aO G:=fun a w S st=>by
 have hgs' :gs<a.tmps.size:=by rw [st.facts.size];simpa [ye] using hgs
 have hw:=wK (o:=⟨some d,op,ty,pos,after,some (j,pol)⟩) rfl hj hgs' (tP V S a st.facts);refine wpListIn_step fun hx hK=>?_;rw [hw,e,bB (by cases pol<;>simp)];exact⟨fun _ _=>trivial,hK _ _ (k _ _ S (st.step (mi.refl _ _ _) st.sat hd rfl))⟩
def SL{b:Bool}(hj:(ops[j]?).bind (·.dst)=some gs)(hgs:Nat.blt gs E.N.n=true)(V:cX G gs=some (rM false (tD rB b)))(hd:Nat.blt d E.N.n=true)(k:RG E ops tV rest aO ((d,rM false (tD rB true))::G)):
  RG E ops tV (⟨some d,op,ty,pos,after,some (j,pol)⟩::rest) aO G:=fun a w S st=>by
 have hgs' :gs<a.tmps.size:=by rw [st.facts.size];simpa [ye] using hgs
 have hw:=wK (o:=⟨some d,op,ty,pos,after,some (j,pol)⟩) rfl hj hgs' (Fc V S a st.facts);refine wpListIn_step fun hx hK=>?_;rw [hw,bB (by simp)];exact⟨fun _ _=>trivial,hK _ _ (k _ _ S (st.step (mi.refl _ _ _) st.sat hd rfl))⟩
end
def tz{n:FuncId}{fts ts:List Ty}{fo:Operand}{xs:List Operand}(O1 Or:List OE){t:OI->Ty}{O2 post:OI->List OE}(hO:aO=O1++Or)(hc:aj E.P n=true)(hs:bU E.P n (fts++ts) O1 t O2)(hf:bk E.N G fo (Ha n fts))(K:nD E.N G xs ts)(hpost: ∀i,O2 i++Or=post i):
  EffOK E aO G ⟨some d,.call ⟨.value fo,xs.toArray,ats⟩,ty,pos,after,g⟩ post t:=fun a w S hsat ho hF V=>by
 subst hO;obtain rfl:(fun i=>O2 i++Or)=post:=funext hpost;obtain⟨fst,e,hfst⟩:=hf S a hF;have hr:(execOp a.eval ⟨some d,.call ⟨.value fo,xs.toArray,ats⟩,ty,pos,after,g⟩).run E.P w= .ok (.enter n (fst.toArray++(xs.map a.eval).toArray)) w:=by
  simp [execOp,resolve,e,Deferred.ofValue,invoke,k7 hc]
 refine⟨fun c h=>(by cases h),?_⟩;rw [hr];have e2:fst.toArray++(xs.map a.eval).toArray=(fst++(xs.map a.eval)).toArray:=by simp
 rw [e2];exact(hs w S _ hsat (hfst.append (K.tys hF)) (tX ho).1.weak).mono fun en w' ⟨i,v,S',he,hv,H,W,h3,h4⟩=>⟨_,he,v,S',i,rfl,H.more fun b ⟨f,hf,V⟩=>⟨f,GS _ hf,V⟩,W,gm.turn ho V H h3 h4,hv⟩
def NT{hi mx:Operand}{k k' :IntKind}{j:Int}(D:E.P.underlying t=some (.slice T))(ti:TI E.P T sz bytes agg z)(hsz:r.sz=sz)(K:bk E.N G x (tD (gE r) xs))(hhi:bk E.N G hi (tD (rI k) j))(hmx:bk E.N G mx (tD (rI k') j))(h:dr xs 0 j=some ys):dw E aO G ⟨dst,.slice t x none (some hi) (some mx),ty,pos,after,g⟩ (tD (gE r) ys):=
 .of_pure fun a w S _ _ hf=>by
  subst hsz;obtain⟨ad,cap,H,W,h3,h4⟩:=ku.1 (K S a hf);have h6:=fH.1 (hhi S a hf);have h7' :=fH.1 (hmx S a hf);obtain⟨l,m,hl,rfl,h7,h8,rfl⟩:=gR h;have hl0:l=0:=by omega
  subst hl0;have hlen:((xs.take m).drop 0).length=m-0:=by simp;omega
  have hrun:(execOp a.eval ⟨dst,.slice t x none (some hi) (some mx),ty,pos,after,g⟩).run E.P w= .ok (.value (.slice (if m=0 then ad else ad.map (·.add (0*r.sz))) (m-0) (m-0))) w:=by
   simp [execOp,Instr.sliceAt,H,h6,h7',Instr.slice,mb D,Instr.sliceBounds,jn (k:=k) (n:=(m:Int)) (y:=m) (by omega) (by omega),jn (k:=k') (n:=(m:Int)) (y:=cap) (by omega) (by omega),ti.sizeOf]
  refine⟨_,hrun,ku.2 ⟨_,m-0,by rw [hlen],by omega,by omega,?_⟩⟩;by_cases hm:m=0
  ·subst hm;exact .inl (by simp)
  ·have:=wP h4 h7 h8 W;rw [bB (by omega)]at this;rw [bB hm];exact this
def OF{zs:List α}(h:sw xs ys=zs):zs.length=xs.length:=by rw [<-h,wt]
def Ul{zs:List α}(hq:q.sz=1)(hu:E.P.underlying dT=some (.slice el))(hs:(E.P.info? el).map (·.size)=some 1)(K:bk E.N G x (Q (aI l cap xs.length)))(hy:bk E.N G y (tD (gE q) ys))(hz:sw xs ys=zs):
  EffOK E (d5 q U l cap xs::aO) G ⟨some d,.call ⟨.builtin .copy,#[x,y],#[dT,sT]⟩,ty,pos,after,g⟩ (fun _=>d5 q U l cap zs::aO) (fun _=>tD (rI .i64) ((min ys.length xs.length:Nat):Int)):=fun a w S hs0 ho hf V=>by
 subst hz;have H:a.eval x=aI l cap xs.length:=K S a hf;have hy1:=hy S a hf;obtain⟨ad,cap',W,_,_,h3⟩:=ku.1 hy1;obtain⟨⟨cells,hraw,hrc,hS⟩,hbase⟩:=ho.1;have hm:min ys.length xs.length<=ys.length:=Nat.min_le_left _ _
 cases l with
 |none=>
  have hx0:xs=[]:=vM hraw.1;subst hx0;have hrun:(Builtin.copy_ #[dT,sT] ty #[.slice none 0 0,a.eval y]).run E.P w= .ok (goInt 0) w:=by
   rw [W]
   cases hel:E.P.info? el with
   |none=>simp [hel]at hs
   |some i=>
    have hi:i.size=1:=by simpa [hel] using hs
    cases ad with
    |none=>simp [Builtin.copy_,mb hu,Builtin.lenOf,Builtin.firstCells,sizeOf,typeInfo,hel,hi,storeCells]
    |some p=>
     have hl:=run_loadCells_list (P:=E.P) w p [] (fun j v hv=>by simp at hv);simp only [yg]at hl;simp [Builtin.copy_,mb hu,Builtin.lenOf,Builtin.firstCells,sizeOf,typeInfo,hel,hi,storeCells,hl]
  have hx' :(execOp a.eval ⟨some d,.call ⟨.builtin .copy,#[x,y],#[dT,sT]⟩,ty,pos,after,g⟩).run E.P w= .ok (.value (goInt 0)) w:=by
   have h1' :a.eval x= .slice none 0 0:=H;simp [execOp,resolve,h1',invoke,builtin,hrun]
  refine⟨fun c h=>(by cases h),?_⟩;rw [hx'];refine⟨_,S,fe,rfl,mi.refl _ _ _,hs0,?_,?_⟩
  ·have e:sw ([]:List α) ys=[]:=by unfold sw;simp
   rw [e];exact ho
  ·exact fH.2 (by simp [goInt])
 |some b=>
  obtain⟨cur,g1,g2,g3,g4,g5⟩:=hraw;rw [hq,Dt]at g4 g5;have h1' :a.eval x= .slice (some ⟨b,0,none⟩) xs.length cap:=H;have hxl:xs.length<=cur.toList.length:=by simp [g4];exact g2
  obtain⟨cs,hcs,hrun,hlen⟩: ∃cs,uI q S cs (ys.take (min ys.length xs.length))/\(Builtin.copy_ #[dT,sT] ty #[.slice (some ⟨b,0,none⟩) xs.length cap,a.eval y]).run E.P w= .ok (goInt cs.length) (w.setRow b (cs++cur.toList.drop cs.length).toArray)/\cs.length=min ys.length xs.length:=by
   rw [W];rcases h3 with rfl|⟨b',off,c,T',fr,rfl,e2,e3⟩
   ·refine⟨[],by simp [uI],?_,by simp⟩
    cases hel:E.P.info? el with
    |none=>simp [hel]at hs
    |some i=>
     have hi:i.size=1:=by simpa [hel] using hs
     have hself:w.setRow b (([]:List Value)++cur.toList.drop ([]:List Value).length).toArray=w:=by simpa using setRow_self w b cur U (0,0) g1
     rw [hself]
     cases ad with
     |none=>simp [Builtin.copy_,mb hu,Builtin.lenOf,Builtin.firstCells,sizeOf,typeInfo,hel,hi,storeCells]
     |some p=>
      have hl:=run_loadCells_list (P:=E.P) w p [] (fun j v hv=>by simp at hv);simp only [yg]at hl;simp [Builtin.copy_,mb hu,Builtin.lenOf,Builtin.firstCells,sizeOf,typeInfo,hel,hi,storeCells,hl]
   ·obtain⟨c',h8,h9⟩:=hs0.part e2 (mv e3);obtain⟨d1,d2⟩:=Gx hq e3 hm;rw [CJ,hq,Dt,Aw hm]at d1;have hl:((c.toList.drop off).take (min ys.length xs.length)).length=min ys.length xs.length:=by
     rw [mv d1,hq,Dt,Ca,Aw hm]
    refine⟨_,d1,?_,hl⟩;have:=run_copy_row (P:=E.P) w dT sT ty el b 0 xs.length cap ⟨b',off,none⟩ ys.length cap' cur U ((c.toList.drop off).take (min ys.length xs.length)) hu hs g1 hl (fun j v hv=>?_) (by rw [hl];simp at hxl;omega) (BH d1)
    ·simpa using this
    ·have hj:j<min ys.length xs.length:=by rw [<-hl];exact(vK.1 hv).1
     have hcell:w.cell? ⟨b',off+j,none⟩=c'[off+j]? :=zW h8 _;rw [kL];show w.cell? ⟨b',off+j,none⟩=_;rw [hcell];have h10:((c'.toList.drop off).take (ys.length*q.sz))[j]? =((c.toList.drop off).take (ys.length*q.sz))[j]? :=by rw [h9]
     rw [Cd (by rw [hq];omega),Cd (by rw [hq];omega),zb,zb]at h10;rw [Cd hj,zb]at hv;rw [<-hv,<-Array.getElem?_toList,h10]
  have hx' :(execOp a.eval ⟨some d,.call ⟨.builtin .copy,#[x,y],#[dT,sT]⟩,ty,pos,after,g⟩).run E.P w= .ok (.value (goInt cs.length)) (w.setRow b (cs++cur.toList.drop cs.length).toArray):=by
   simp [execOp,resolve,h1',invoke,builtin,hrun]
  refine⟨fun c h=>(by cases h),?_⟩;rw [hx'];have hle:min ys.length xs.length<=xs.length:=Nat.min_le_right _ _;have hrc' :uI q S (cur.toList.take xs.length) xs:=by rw [g5];exact hrc
  obtain⟨_,d4⟩:=Gx hq hrc' hle;have hno:S b=none:=hS b rfl;have hnew:Dj false q U (some b) cap (sw xs ys) (w.setRow b (cs++cur.toList.drop cs.length).toArray) S:=by
   refine⟨(cs++cur.toList.drop cs.length).take xs.length,⟨_,setRow_heap w b cur _ U _ g1,by rw [wt];exact g2,g3,?_,by rw [wt,hq,Dt]⟩,?_,fun b' hb' =>by cases hb';exact hno⟩
   ·simp [hlen,hq];simp at hxl;omega
   ·unfold sw;have e1:ys.take xs.length=ys.take (min ys.length xs.length):=by rw [List.take_eq_take_iff];omega
    have e2:(cs++cur.toList.drop cs.length).take xs.length=cs++(cur.toList.take xs.length).drop cs.length:=by
     rw [List.take_append,yi (by omega),Cl]
    rw [e1,e2,hlen];exact uU hcs d4
  obtain⟨k1,k2,k3⟩:=qm (aO:=aO) hs0 (w' :=w.setRow b (cs++cur.toList.drop cs.length).toArray) (d5 q U (some b) cap xs) (d5 q U (some b) cap (sw xs ys)) ho (fun k=>by simp [d5,o5];exact eq_comm) (fun k=>by simp [d5,o5];exact eq_comm) ⟨rfl,rfl,rfl,by simp [World.setRow],kE _⟩ (fun k hk=>setRow_other w b k _ hk) hnew hno;refine⟨_,S,fe,rfl,k1.more fun k hk=>⟨_,jO ..,by subst hk;rfl⟩,k2,k3,?_⟩;rw [hlen];exact fH.2 rfl
def Xz{e:Exit}(h:AT E tV e (s (gE r) T b xs::aO) G):
  AT E tV e (s rV T b (aI l cap xs.length)::lP r U l cap xs::aO) G:=fun a w S st=>h a w S (st.own_map fun⟨⟨⟨g1,c,g2,g3⟩,g4⟩,g5,g6⟩=>by
 obtain⟨a',cap',e,H,W,h3⟩:=ku.1 (pN g6.1.1);exact⟨⟨⟨g1,c,g2,a',cap',by rw [g3.1,e],H,W,h3⟩,g4⟩,fun f hf=>g5 f (.tail _ hf),g6.2.2⟩)
structure KeyA{κ:Type} [DecidableEq κ](P:Program)(kt:TypeId)(kv:κ->Value):Prop where
 chk: ∀e w k,(Instr.checkKey e 10000 kt (kv k)).run P w= .ok () w
 eql: ∀w a b,(Op.equal kt (kv a) (kv b)).run P w= .ok (decide (a=b)) w
 wide:(match P.underlying kt with|some (.array _ _)|some (.struct _)=>true|_=>false)=true
 same: ∀k,Instr.sameBits 10000 (kv k) (kv k)=true
 inj: ∀a b,kv a=kv b->a=b
def k2(l:List Int):Int×Int:=(l.getD 0 0,l.getD 1 0)
section
variable [DecidableEq κ]{k:κ}
end
section
variable [DecidableEq κ]{k:κ}{dst:Option Nat}
end
section
variable [DecidableEq κ]{k:κ}{dst:Option Nat}
end
variable{os:Array Obj}
section
variable [DecidableEq κ]{hb:MV β}{os:List (Option Nat×Nat)}{h:Option κ}{dst:Option Nat}
end
section
variable{e:Exit}
end
section
variable [DecidableEq κ]
end
section
variable [DecidableEq κ]{k:κ}{u:Operand}{dst:Option Nat}
end
open Go.Sort Go.Shelf
def Ed(h:k<w.heap.size):(grow w os).heap[k]? =w.heap[k]? :=by
 unfold grow;exact Array.getElem?_append_left h
variable{enc:α->Value}
def N9 [Inhabited α]{d:Array α}(h:k≠b):(putRow enc w b off d).heap[k]? =w.heap[k]? :=by
 unfold putRow mapBlock;rw [Array.getElem?_modify,bB (Ne.symm h)]
def Ec [Inhabited α]{m:Nat}{d:Array α}(hk:k<w.heap.size)(h:k≠b):(sortWorld enc w b off m d os).heap[k]? =w.heap[k]? :=by
 unfold sortWorld;rw [Ed (by rw [size_putRow];exact hk),N9 h];rfl
def LJ [Inhabited α]{m:Nat}{d:Array α}{c:Array Value}{fr:Nat×Nat}(h:w.heap[b]? =some (.cells c T fr)):
  (sortWorld enc w b off m d os).heap[b]? =some (.cells (putCells enc off d c) T fr):=by
 have hlt:=(KL.1 h).1;unfold sortWorld;rw [Ed (by rw [size_putRow];exact hlt)];unfold putRow mapBlock;rw [Array.getElem?_modify,bM rfl];show Option.map _ (w.heap[b]?)=_;rw [h];rfl
def I7 [Inhabited α]{d:Array α}{c:Array Value}(h:d.size<=c.size):(putCells enc 0 d c).toList.take d.size=d.toList.map enc:=by
 apply List.ext_getElem?;intro k;by_cases hk:k<d.size
 ·rw [Cd hk];have hc:k<c.size:=by omega
  simp [putCells,hc,hk]
 ·rw [GT (by simp;omega),GT (by simp;omega)]
section
def OP{m:Nat}(hl:m=n)(bx:Nat)(hs:cX G bx=some (Q (aI l cap n)))(k:RG E ops tV rest aO ((bx,Q (aI l cap m))::G)):RG E ops tV rest aO G:=by
 subst hl;exact fun a w S st=>k a w S ⟨st.ext,st.sat,st.own,⟨st.facts.size,st.facts.defers,fun j t h=>by
  unfold cX at h;by_cases V:Nat.beq bx j=true
  ·rw [V]at h;have:=t8 V;subst this;have e:Q (aI l cap m)=t:=by simpa using h
   rw [<-e];exact st.facts.at_ bx _ hs
  ·rw [Dp]at V;rw [V]at h;exact st.facts.at_ j t h⟩⟩
end
def ltF{α:Type}(cmp:α×α->Option Int)(x y:α):Bool:=
 match cmp (x,y)with
 |some c=>decide (c<0)
 |none=>false
def adp{α:Type}(lt:α->α->Bool)(x:α):List α->List α
 |[]=>[x]
 |y::ys=>if lt y x then y::adp lt x ys else x::y::ys
def aaq{α:Type}(lt:α->α->Bool):List α->List α
 |[]=>[]
 |x::xs=>adp lt x (aaq lt xs)
structure Good{α:Type}(cmp:α×α->Option Int)(xs:List α):Prop where
 len:xs.length<=1099511627776
 tot: ∀x∈xs,∀y∈xs,(cmp (x,y)).isSome=true
 irr: ∀x∈xs,ltF cmp x x=false
 tr: ∀x∈xs,∀y∈xs,∀z∈xs,ltF cmp x y=true->ltF cmp y z=true->ltF cmp x z=true
 anti: ∀x∈xs,∀y∈xs,ltF cmp x y=false->ltF cmp y x=false->x=y
def sortI(xs:List Int):List Int:=xs.mergeSort fun x y=>decide (x<=y)
def EV(xs:List Int):(sortI xs).length=xs.length:=by unfold sortI;simp
def Kk(x:Int):List Int->List Int
 |[]=>[x]
 |y::l=>if x<=y then x::y::l else y::Kk x l
def Ue:List Int->List Int
 |[]=>[]
 |x::l=>Kk x (Ue l)
def C6(x:Int): ∀l:List Int,(Kk x l).Perm (x::l)
 |[]=> .refl _
 |y::l=>by
  unfold Kk;split
  ·exact .refl _
  ·exact((C6 x l).cons y).trans (.swap x y l)
def Kj: ∀l:List Int,(Ue l).Perm l
 |[]=> .refl _
 |x::l=>(C6 x (Ue l)).trans ((Kj l).cons x)
def N7(x:Int): ∀l:List Int,l.Pairwise (· <= ·)->(Kk x l).Pairwise (· <= ·)
 |[],_=>List.pairwise_singleton _ _
 |y::l,h=>by
  have hy: ∀z∈l,y<=z:=fun z hz=>List.rel_of_pairwise_cons h hz;unfold Kk;split
  ·rename_i K;refine List.Pairwise.cons (fun z hz=>?_) h;rcases ll.1 hz with rfl|hz
   ·exact K
   ·exact Int.le_trans K (hy z hz)
  ·rename_i K;refine List.Pairwise.cons (fun z hz=>?_) (N7 x l (List.Pairwise.of_cons h));rcases ll.1 ((C6 x l).mem_iff.1 hz)with rfl|hz
   ·omega
   ·exact hy z hz
def R1: ∀l:List Int,(Ue l).Pairwise (· <= ·)
 |[]=> .nil
 |x::l=>N7 x _ (R1 l)
def Yv(l:List Int):Ue l=sortI l:=by
 refine List.Perm.eq_of_pairwise (le:=(· <= ·)) (fun a b _ _ H W=>Int.le_antisymm H W) (R1 l) ?_ ((Kj l).trans (List.mergeSort_perm l _).symm);have:=List.pairwise_mergeSort (le:=fun x y:Int=>decide (x<=y)) (fun a b c H W=>by simp at*;omega) (fun a b=>by simp;omega) l;exact this.imp fun h=>by simpa using h
def Hb(xs:List Int):Option (List Int):=if xs.length<=68719476736 then some (Ue xs)else none
def JR(xs:List Int):Hb xs=if xs.length<=68719476736 then some (sortI xs)else none:=by
 unfold Hb;rw [Yv]
def M6{xs ys:List Int}(h:Hb xs=some ys):xs.length<=68719476736/\ys=sortI xs:=by
 rw [JR]at h;split at h
 ·exact⟨by assumption,by simpa using h.symm⟩
 ·cases h
def RD{k:IntKind}{S:SH}: ∀{xs:List Int} {cs:List Value},uI (rI k) S cs xs->cs=xs.map (Value.int k)
 |[],cs,h=>by rw [show cs=[]from h];rfl
 |x::xs,cs,⟨a,b,e,H,W⟩=>by
  rw [e,show a=[.int k x]from H,RD W];rfl
def RZ{k:IntKind}{S:SH}: ∀xs:List Int,uI (rI k) S (xs.map (Value.int k)) xs
 |[]=>rfl
 |x::xs=>⟨[.int k x],_,rfl,rfl,RZ xs⟩
def Ti{ρ:Ren}(L:Lays.n189 P ρ){xs:List Int}(hlen0:xs.length<=68719476736)(hs:oF w S)(h:(d5 (rI .i64) T l cap xs).p w S):
  Calls P (ρ.f 189) #[aI l cap xs.length] w fun e w' =>e= .returned (.tuple #[])/\mi (fun k=>l=some k) w S w' S/\oF w' S/\(d5 (rI .i64) T l cap (sortI xs)).p w' S:=by
 cases l with
 |none=>
  have K:xs=[]:=vM (by obtain⟨_,h4,_⟩:=h;exact h4.1);subst K;exact(Any.slices_Sort_int_none (P:=P) (ρ:=ρ) L none 0 w).mono fun _ _ ⟨H,W⟩=>by subst W;exact⟨H,mi.refl _ _ _,hs,by simpa [sortI] using h⟩
 |some b=>
  obtain⟨cells0,⟨cur,V,hle,hmax,hcs,hct⟩,hrc,hno0⟩:=h;have hno:S b=none:=hno0 b rfl;subst hct;have H:(rI .i64).sz=1:=rfl;rw [H,Dt]at hcs hrc;have hcells:=RD hrc;have hH:Holds (Value.int .i64) w b 0 xs.toArray:=by
   intro j hj;have hj' :j<xs.length:=by simpa using hj
   have hc:cur[j]? =some (Value.int .i64 xs.toArray[j]!):=by
    have:(cur.toList.take xs.length)[j]? =some (Value.int .i64 xs.toArray[j]!):=by
     rw [hcells,MC,getElem!_pos xs.toArray j hj];simp [hj']
    rw [Cd (by omega)]at this;simpa using this
   refine⟨by simp [World.cell?,V,hc],?_⟩;simp [World.frozen?,V]
  have hblk:=(KL.1 V).1;have hcall:=calls_of_every_depth fun ht=>AnyS.slices_Sort_int_alone (P:=P) (ρ:=ρ) L ht b 0 cap xs w hH hblk (by omega);refine hcall.mono fun e w' ⟨he,n,os,hw⟩=>?_;have hlen:=EV xs;have hw2:w' =sortWorld (Value.int .i64) w b 0 n (sortI xs).toArray os:=hw;subst hw2;refine⟨he,⟨rfl,rfl,rfl,Nat.le_add_right _ _,?_,fun k hk hkb=>Ec hk (fun e=>hkb (by rw [e])),SH.le_refl _,fun _ _ _=>rfl⟩,hs.same fun k o hk=>?_,⟨_,⟨_,LJ V,by omega,hmax,?_,rfl⟩,?_,hno0⟩⟩
  ·unfold sortWorld;rw [size_grow,size_putRow];exact Nat.le_add_right _ _
  ·have hkb:k≠b:=fun e=>by subst e;rw [hno]at hk;cases hk
   exact Ec (hs.lt hk) hkb
  ·simp [putCells,H,hcs]
  ·have e1:(sortI xs).length*(rI .i64).sz=(sortI xs).toArray.size:=by rw [H];simp
   rw [e1,I7 (by simp;omega)];exact RZ (sortI xs)
section
def Xr{ρ:Ren}(L:Lays.n189 E.P ρ){f:FuncId}(hf:ρ.f 189=f)(hc:aj E.P f=true){xs ys:List Int}(hy:Hb xs=some ys)(K:bk E.N G x (Q (aI l cap n)))(hn:n=xs.length)(hd:Nat.blt d E.N.n=true)(k:ys.length=n->RG E ops tV rest (d5 (rI .i64) T l cap ys::aO) ((d,ER)::G)):RG E ops tV (⟨some d,.call ⟨.value (.func f),#[x],ats⟩,ty,pos,after,none⟩::rest) (d5 (rI .i64) T l cap xs::aO) G:= .of rfl fun a w S st=>by
 obtain⟨hl0,rfl⟩:=M6 hy;subst hf;subst hn;have H:a.eval x=aI l cap xs.length:=K S a st.facts;have hr:(execOp a.eval ⟨some d,.call ⟨.value (.func (ρ.f 189)),#[x],ats⟩,ty,pos,after,none⟩).run E.P w= .ok (.enter (ρ.f 189) #[aI l cap xs.length]) w:=by
  have e0:a.eval (.func (ρ.f 189))= .func (.func (ρ.f 189)) #[] #[]:=rfl;simp [execOp,resolve,e0,H,Deferred.ofValue,invoke,k7 hc]
 refine⟨fun c h=>(by cases h),?_⟩;rw [hr];refine(Ti L hl0 st.sat st.own.1.1).mono fun e w' ⟨he,hext,hsat,hp⟩=>⟨_,he,?_⟩;have hfp: ∀g∈aO,∀b,g.fp b-> ¬(l=some b):=fun g Y b V hl=>st.own.2.1 g Y b hl V;refine k (EV xs) _ _ S ⟨st.ext.step hext (fun c hc=>st.own.1.2 c hc),hsat,⟨⟨hp,st.own.1.2⟩,st.own.2.1,st.own.2.2.ext hext hfp⟩,?_⟩;exact(st.facts.mono hext.keep).put hd trivial
end
