/- cE of this claim: W58, W66, W63, W59, W61, W62, W60, W44, W55, W29. -/
import Derived.Test.YtdohlidddcgfjaaGreatFcV3
import Derived.Test.YtdohlidddcgfjaaGreatFcV2
import Derived.WideKeyRuns
import Derived.Test.YtdohlidddcgfjaaGreatFcV1
import Derived.WideKeyEntry
import Derived.Shelf.GgSortFunc.Insertion
import Derived.Shelf.Slices.In.SortNone
set_option linter.all false
namespace Go.Proofs.YtdohlidddcgfjaaGreat
open Go

def rPt{α:Type}(r:Rp α):Rp α where
 sz:=1
 agg:=false
 rc:=fun S cs x=> ∃v,cs=[v]/\(ck r x).p S v
 mono:=fun h ⟨v,e,k⟩=>⟨v,e,(ck r _).mono h k⟩
 len:=fun⟨_,e,_⟩=>by rw [e];rfl
 one:=fun⟨v,e,b,off,c,U,fr,h,_⟩ c' hc=>by rw [e]at hc;simp at hc;subst hc;rw [h];rfl
 sc:=fun _=>rfl
variable{S:SH}{α:Type}{r:Rp α}{v:Operand}{w:World}{x:Operand}
def Tc{x:α}{v:Value}:(tD (rPt r) x).p S v↔(ck r x).p S v:=by
 constructor
 ·rintro⟨cs,rfl,w,rfl,h⟩;exact h
 ·intro h;exact⟨[v],rfl,v,rfl,h⟩
variable{T:TypeId}{b:Nat}{β:Type}{q:Rp α}{y:Operand}
def ZA{rd:Rp β}{x:α}{y:β}(h:(bx r T b x).p w S)(hs:nm w S)(cv: ∀cs,r.rc S cs x->rd.rc S cs y): ∃S1,SH.le S S1/\nm w S1/\(ck rd y).p S1 (Z b 0):=by
 obtain⟨hn,c,K,h3⟩:=h
 have hle:SH.le S (S.set b (.cells c T (0,0))):=ww fun q hq=>(by rw [hn]at hq;cases hq)
 have hsat:nm w (S.set b (.cells c T (0,0))):=hs.set K (uA _) fun q hq=>by rw [hn]at hq;cases hq
 have h4:=cv _ h3
 have hl:c.toList.length=rd.sz:=rd.len h4
 refine⟨_,hle,hsat,b,0,c,T,(0,0),rfl,nU _ _ _,?_⟩
 rw [zr,uj (by omega)]
 exact rd.mono hle h4
variable{E:En}{G:mV}{N:Fr}{O:List OE}{after:Array Edge}{ats:Array TypeId}{dst:Option Nat}{el:TypeId}{g:Option (Nat×Bool)}{i:Operand}{κ:Type}{k:κ}{m:List (κ×β)}{n off:Nat}{pos:String}{t ty:TypeId}{xs ys:List α}{γ:β->Ty}
section
variable{dst:Option Tmp}
def Q7{f:FuncId}{xs:List Operand}{ts:List Ty}{t:Ty}{rd:Rp β}{x:α}{y:β}(hm:bx r T b x∈O)(hc:ah E.P f=true)(hs:cX E.P f ts t)(cv: ∀w S cs,fe E.base E.B w S O->r.rc S cs x->rd.rc S cs y)(V: ∀(S S1:SH) (a:Act),cE E.N S a G->SH.le S S1->(ck rd y).p S1 (Z b 0)->xH S1 ts (xs.map a.eval))(htf: ∀(S S' :SH) (v:Value),t.p S v->t.p S' v):
  cI E O G ⟨dst,.call ⟨.value (.func f),xs.toArray,ats⟩,ty,pos,after,g⟩ t:=fun a w S hS hO hF=>by
 have hr:(execOp a.eval ⟨dst,.call ⟨.value (.func f),xs.toArray,ats⟩,ty,pos,after,g⟩).run E.P w= .ok (.enter f (xs.map a.eval).toArray) w:=by
  simp [execOp,resolve,Act.eval,Deferred.ofValue,invoke,jf hc]
 refine⟨fun c h=>(by cases h),?_⟩
 rw [hr]
 obtain⟨S1,k1,k2,k3⟩:=ZA (fe.mem hO _ hm).1 hS (fun cs h=>cv w S cs hO h)
 exact(hs w S1 _ k2 (V S S1 a hF k1 k3)).mono fun e w' ⟨v,S',he,X,K,h3⟩=>⟨v,he,v,S,rfl,
  ⟨X.os,X.tape,X.output,X.drawn,X.size,X.heap,SH.le_refl _,fun _ _ _=>rfl⟩,hS.same fun b o k=>X.heap b (hS.lt k) (fun H=>H),htf S' S v h3⟩
def qY(t:Nat->Ty):Ty where
 p:=fun S v=> ∀b,(t b).p S v
 mono:=fun h k b=>(t b).mono h (k b)
def ET{o:Operand}{t:Nat->Ty}(h: ∀b,aY N G o (t b)):aY N G o (qY t):=fun S a hf b=>h b S a hf
def ZF{o:Operand}{t:Nat->Ty}(b:Nat)(h:aY N G o (qY t)):aY N G o (t b):=fun S a hf=>h S a hf b

def ut{γ:Type}{r' :Rp γ}{q:Rp β}{hs hs' :HL}{x:α}{x' :γ}{y:β}(h:sm r r' off q x y x')(hk:YC hs off q.sz none hs')(hoff:Nat.ble (off+q.sz) r.sz=true):sm (rH r hs) (rH r' hs') off q x y x' :=fun S cs ds X K=>by
 refine⟨h S cs ds X.1 K,fun p hp=>?_⟩
 rcases hk.all p hp with⟨e,_⟩|⟨g1,g2⟩
 ·cases e
 ·have hl:=r.len X.1
  rw [vx (q.len K) (by have:=sn hoff;omega) g2]
  exact X.2 _ (ud g1)
def SN{γ:Type}{r' :Rp γ}{x:α}{x' :γ}{hs:HL}{cs:List Value}(h:(rH r hs).rc S cs x)(k:r.rc S cs x->r'.rc S cs x'):(rH r' hs).rc S cs x' :=⟨k h.1,h.2⟩

def Dt(hq:q.sz=1){cs:List Value}{m:Nat}(h:sh q S cs xs)(hm:m<=xs.length):sh q S (cs.take m) (xs.take m)/\sh q S (cs.drop m) (xs.drop m):=by
 have:=ri (xs:=xs.take m) (ys:=xs.drop m) (by rw [ui];exact h)
 rwa [DE,xK hm,hq,AQ]at this
def qx{α:Type}(xs ys:List α):List α:=ys.take xs.length++xs.drop (min ys.length xs.length)
def tW:(qx xs ys).length=xs.length:=by
 unfold qx
 simp
 omega
def J2{p:Operand}(hu:E.P.underlying T=some (.array n el))(hs:((E.P.info? el).map (·.size)).isSome=true)(hp:aY E.N G p (M (Z b 0))):
  cI E O G ⟨dst,.slice T p none none none,ty,pos,after,g⟩ (M (.slice (some ⟨b,0,none⟩) n n)):= .of_pure fun a w S _ _ hf=>by
 have X:a.eval p=Z b 0:=hp S a hf
 cases hq:E.P.info? el with
 |none=>simp [hq]at hs
 |some i=>exact⟨_,by simp [execOp,X,Z,Instr.sliceAt,j3 hu,Instr.sureAddr,Instr.sliceBounds,sizeOf,typeInfo,hq,Result.andThen];intro _;rfl,rfl⟩
end
variable{P:Program}{aK:Exit->Act->World->Prop}{U:TypeId}{agg:Bool}{bytes cap aR:Nat}{dT:TypeId}{gs:Nat}{hi:Int}{j:Nat}{l:Option Nat}{lo:Int}{mm:Bool}{op:Op}{ops:Array Oper}{pol:Bool}{rest:List Oper}{sT:TypeId}{sz:Nat}{z:List Value}{zs:List α}
section
variable{c:Code}{dst:Option Tmp}
def Pu(hq:q.sz=1)(hu:E.P.underlying dT=some (.slice el))(hs:(E.P.info? el).map (·.size)=some 1)(V:aY E.N G x (M (.slice (some ⟨b,0,none⟩) n n)))(hy: ∀a w S,nm w S->fe E.base E.B w S (bx (o7 q n) T b xs::O)->cE E.N S a G-> ∃S1,nm w S1/\(tD (f6 q) ys).p S1 (a.eval y)/\ ∀cs zs,sh q S1 cs zs->sh q S cs (zs:List α)):
  EffOK E (bx (o7 q n) T b xs::O) G ⟨some aR,.call ⟨.builtin .copy,#[x,y],#[dT,sT]⟩,ty,pos,after,g⟩ (fun _=>bx (o7 q n) T b (qx xs ys)::O) (fun _=>tD (rI .i64) ((min ys.length n:Nat):Int)):=fun a w S hs0 ho hf H=>by
 have X:a.eval x= .slice (some ⟨b,0,none⟩) n n:=V S a hf
 obtain⟨S1,hS1,hy1,hback⟩:=hy a w S hs0 ho hf
 obtain⟨ad,cap,K,_,_,h3⟩:=mf.1 hy1
 obtain⟨⟨hno,cur,h5,h6,h7⟩,_⟩:=ho.1
 have hcl:cur.toList.length=n:=by rw [ll h7,hq,h6,AQ]
 have hm:min ys.length n<=ys.length:=Nat.min_le_left _ _
 obtain⟨cs,hcs,hrun,hlen⟩: ∃cs,sh q S cs (ys.take (min ys.length n))/\(Builtin.copy_ #[dT,sT] ty #[.slice (some ⟨b,0,none⟩) n n,a.eval y]).run E.P w= .ok (goInt cs.length) (w.setRow b (cs++cur.toList.drop cs.length).toArray)/\cs.length=min ys.length n:=by
  rw [K]
  rcases h3 with rfl|⟨b',off,c,T',fr,rfl,e2,e3⟩
  ·refine⟨[],by simp [sh],?_,by simp⟩
   cases hel:E.P.info? el with
   |none=>simp [hel]at hs
   |some i=>
    have hi:i.size=1:=by simpa [hel] using hs
    have hself:w.setRow b (([]:List Value)++cur.toList.drop ([]:List Value).length).toArray=w:=by simpa using setRow_self w b cur T (0,0) h5
    rw [hself]
    cases ad with
    |none=>simp [Builtin.copy_,j3 hu,Builtin.lenOf,Builtin.firstCells,sizeOf,typeInfo,hel,hi,storeCells]
    |some p=>
     have hl:=run_loadCells_list (P:=E.P) w p [] (fun j v hv=>by simp at hv)
     simp only [vX]at hl
     simp [Builtin.copy_,j3 hu,Builtin.lenOf,Builtin.firstCells,sizeOf,typeInfo,hel,hi,storeCells,hl]
  ·obtain⟨c',h8,h9⟩:=hS1.part e2 (ll e3)
   obtain⟨d1,d2⟩:=Dt hq e3 hm
   rw [AI,hq,AQ,xK hm]at d1
   have hl:((c.toList.drop off).take (min ys.length n)).length=min ys.length n:=by
    rw [ll d1,hq,AQ,DE,xK hm]
   have hcs:cur.size=n:=by simpa using hcl
   refine⟨_,hback _ _ d1,?_,hl⟩
   have:=run_copy_row (P:=E.P) w dT sT ty el b 0 n n ⟨b',off,none⟩ ys.length cap cur T ((c.toList.drop off).take (min ys.length n)) hu hs h5 hl (fun j v hv=>?_) (by rw [hl];omega) (yZ d1)
   ·simpa using this
   ·have hj:j<min ys.length n:=by rw [<-hl];exact(tp.1 hv).1
    have hcell:w.cell? ⟨b',off+j,none⟩=c'[off+j]? :=xh h8 _
    rw [jR]
    show w.cell? ⟨b',off+j,none⟩=_
    rw [hcell]
    have h10:((c'.toList.drop off).take (ys.length*q.sz))[j]? =((c.toList.drop off).take (ys.length*q.sz))[j]? :=by rw [h9]
    rw [zu (by rw [hq];omega),zu (by rw [hq];omega),wF,wF]at h10
    rw [zu hj,wF]at hv
    rw [<-hv,<-Array.getElem?_toList,h10]
 have hx' :(execOp a.eval ⟨some aR,.call ⟨.builtin .copy,#[x,y],#[dT,sT]⟩,ty,pos,after,g⟩).run E.P w= .ok (.value (goInt cs.length)) (w.setRow b (cs++cur.toList.drop cs.length).toArray):=by
  simp [execOp,resolve,X,invoke,builtin,hrun]
 refine⟨fun c h=>(by cases h),?_⟩
 rw [hx']
 have hle:min ys.length n<=xs.length:=by rw [h6];exact Nat.min_le_right _ _
 obtain⟨_,d4⟩:=Dt hq h7 hle
 have hnew:(o7 q n).rc S (cs++cur.toList.drop cs.length) (qx xs ys):=by
  refine⟨by rw [tW];exact h6,?_⟩
  unfold qx
  rw [h6,hlen]
  have e1:ys.take n=ys.take (min ys.length n):=by
   rw [List.take_eq_take_iff];omega
  rw [e1]
  exact sD hcs d4
 obtain⟨g1,g2,g3⟩:=oN (O:=O) hs0 (w' :=w.setRow b (cs++cur.toList.drop cs.length).toArray) (bx (o7 q n) T b xs) (bx (o7 q n) T b (qx xs ys)) ho (fun _=>uk) (fun _=>uk) ⟨rfl,rfl,rfl,by simp [World.setRow],eJ _⟩ (fun k hk=>setRow_other w b k _ hk) ⟨hno,_,setRow_heap w b cur _ T _ h5,by simpa using hnew⟩ hno
 refine⟨_,S,ml,rfl,g1.more fun k hk=>⟨_,qa ..,hk⟩,g2,g3,?_⟩
 rw [hlen]
 exact eK.2 rfl
def Oq(hs:eX xs lo hi=some ys)(h:AE mm r U l cap xs w S)(hS:nm w S): ∃S1,nm w S1/\(tD (f6 r) ys).p S1 (oZ r.sz l cap lo.toNat ys.length):=by
 obtain⟨S1,_,k2,hd⟩:=ab0 h hS
 refine⟨S1,k2,?_⟩
 obtain⟨l',m,rfl,rfl,h7,h8,rfl⟩:=gY hs
 obtain⟨ad,c,X,K,h3,h4⟩:=mf.1 hd
 have hlen:((xs.take m).drop l').length=m-l' :=by simp;omega
 cases l with
 |none=>
  obtain⟨cells,g1,_⟩:=h
  have V:xs=[]:=tH g1.1
  subst V
  have e:((([]:List α).take m).drop l')=[]:=by simp
  rw [e]
  exact HM
 |some b=>
  have e1:Value.slice (some ⟨b,0,none⟩) xs.length cap= .slice ad xs.length c:=X
  injection e1 with e2 _ e3
  subst e2
  subst e3
  have h5:=Aa h4 h7 h8 K
  refine mf.2 ⟨_,cap-l',?_,by omega,by omega,h5⟩
  unfold oZ
  simp only [xM,hlen,xB,jR,uT]
  split<;>rfl
def IH{k:IntKind}{xs ys zs:List Int}(hm:nd mm (rI k) U l cap zs∈bx (o7 (rI k) n) T b xs::O)(hsl:eX zs lo hi=some ys)(hu:E.P.underlying dT=some (.slice el))(hs:(E.P.info? el).map (·.size)=some 1)(V:aY E.N G x (M (.slice (some ⟨b,0,none⟩) n n)))(hy:aY E.N G y (M (oZ 1 l cap lo.toNat ys.length))):
  EffOK E (bx (o7 (rI k) n) T b xs::O) G ⟨some aR,.call ⟨.builtin .copy,#[x,y],#[dT,sT]⟩,ty,pos,after,g⟩ (fun _=>bx (o7 (rI k) n) T b (qx xs ys)::O) (fun _=>tD (rI .i64) ((min ys.length n:Nat):Int)):=
 Pu rfl hu hs V fun a w S hs0 ho hf=>by
  obtain⟨S1,X,K⟩:=Oq hsl (fe.mem ho _ hm).1 hs0
  refine⟨S1,X,?_,fun cs zs h=>by rw [A8 h];exact(A8 h)▸JN (fun h=>h) h⟩
  rw [show a.eval y=oZ 1 l cap lo.toNat ys.length from hy S a hf]
  exact K
def Qv{α:Type}(r:Rp α)(y:α)(b:Nat)(t:Ty):Ty where
 p:=fun S v=> ∀S1,SH.le S S1->(ck r y).p S1 (Z b 0)->t.p S1 v
 mono:=fun h k S1 X=>k S1 (SH.le_trans h X)
def S7{y:α}{t:Ty}{S1:SH}{a:Act}(h:aY N G x (Qv r y b t))(hf:cE N S a G)(hle:SH.le S S1)(hk:(ck r y).p S1 (Z b 0)):t.p S1 (a.eval x):=h S a hf S1 hle hk
def If{γ:Type}{r:Rp γ}{z:γ}{args:α->List Ty}{res:β->Ty}{f:α->Option β}{fid:FuncId}{caps:List Operand}{cts:List Ty}(hc:ah E.P fid=true)(hcap: ∀(S S1:SH) (a:Act),cE E.N S a G->SH.le S S1->(ck r z).p S1 (Z b 0)->xH S1 cts (caps.map a.eval))(hs: ∀x y,f x=some y->cX E.P fid (args x++cts) (res y)):cI E O G ⟨dst,.makeFunc (.func fid) #[] caps.toArray,ty,pos,after,g⟩ (Qv r z b (mI E.P args res f)):=
 .of_pure fun a w S _ _ hf=>by
  refine⟨.func (.func fid) #[] (caps.map a.eval).toArray,by simp [execOp,Instr.makeFunc],fun S1 X hk=>⟨fid,_,rfl,hc,fun x y h w' S' vs hle hsat hv=>?_⟩⟩
  have hcv:=(hcap S S1 a hf X hk).mono hle
  simpa using hs x y h w' S' _ hsat (hv.append hcv)
def Mx{y:α}{S1:SH}{a:Act}(h:aY N G x (ck (rT (M (Z b 0))) ()))(hf:cE N S a G)(hle:SH.le S S1)(hk:(ck r y).p S1 (Z b 0)):(ck (rPt r) y).p S1 (a.eval x):=by
 obtain⟨b',off,c,E',fr,X,K,v,h3,_,h4⟩:=(ck (rT (M (Z b 0))) ()).mono hle (h S a hf)
 have h4' :v=Z b 0:=h4
 subst h4'
 exact⟨b',off,c,E',fr,X,K,_,h3,hk⟩
def HK(ti:TI P T sz bytes agg z):(P.info? T).map (·.size)=some sz:=by
 obtain⟨i,_,hi,hs,_⟩:=ti.get
 simp [hi,hs]
def Ta(ti:TI P T sz bytes agg z):((P.info? T).map (·.size)).isSome=true:=by rw [HK ti];rfl
def OW{α:Type}:Rp α where
 sz:=1
 agg:=false
 rc:=fun _ cs _=> ∃v,cs=[v]/\v.oneCell' =true
 mono:=fun _ h=>h
 len:=fun⟨v,h,_⟩=>by rw [h];rfl
 one:=fun⟨v,h,k⟩ c hc=>by rw [h]at hc;simp at hc;subst hc;exact k
 sc:=fun _=>rfl
def ab1{u:Value}{y:α}(h:aY N G x (M u))(ho:u.oneCell' =true):aY N G x (tD OW y):=fun S a hf=>by
 have X:a.eval x=u:=h S a hf
 rw [X]
 exact⟨[u],rfl,u,rfl,ho⟩
def JY{c:Nat}:(ay l c n).oneCell' =true:=by cases l<;>rfl
def MH{j:Int}{o:Oper}{post:OI->List OE}{t:OI->Ty}(h:eX xs 0 j=some ys)(k:EffOK E (db r U l cap ys::O) G o post t):EffOK E (db r U l cap xs::O) G o post t:=fun a w S hs ho hf H=>by
 have X:fe E.base E.B w S (db r U l cap ys::O):=⟨⟨NZ h ho.1.1,ho.1.2⟩,ho.2.1,ho.2.2⟩
 refine oO (fun a' w' ⟨v,S',x,g1,g2,g3,g4,g5⟩=>⟨v,S',x,g1,g2.more fun b ⟨f,hf,H⟩=>?_,g3,g4,g5⟩) (k a w S hs X hf H)
 rcases kj.1 hf with rfl|hf
 ·exact⟨_,qa ..,H⟩
 ·exact⟨f,ry _ hf,H⟩
def IW(hm:nd mm r T l cap xs∈O)(hs:eX xs lo hi=some ys)(h:(l=none->ys.length=0)/\ys.length<=maxLen->CG E aK c O G):CG E aK c O G:=fun a w S st=>by
 refine h ?_ a w S st
 obtain⟨cells,X,_⟩:=(st.own.mem _ hm).1
 obtain⟨l',m,_,_,_,h8,rfl⟩:=gY hs
 have hlen:((xs.take m).drop l').length<=xs.length:=by simp;omega
 cases l with
 |none=>have:=X.1;exact⟨fun _=>by omega,by omega⟩
 |some b=>obtain⟨cur,_,g2,g3,_⟩:=X;exact⟨fun h=>(by cases h),by omega⟩
def YL{b:Bool}:aY N G (.const (.bool b)) (tD rB b):=hB
def yM(b:Bool){l:List Oper}(X:b=true->RG E ops aK l O G)(K:b=false->RG E ops aK l O G):RG E ops aK l O G:=by
 cases b with
 |true=>exact X rfl
 |false=>exact K rfl
def iK{aR:Option Tmp}{b:Bool}(hj:(ops[j]?).bind (·.dst)=some gs)(hgs:Nat.blt gs E.N.n=true)(H:cC G gs=some (tD rB b))(e:b=pol)(k:RG E ops aK (⟨aR,op,ty,pos,after,none⟩::rest) O G):
  RG E ops aK (⟨aR,op,ty,pos,after,some (j,pol)⟩::rest) O G:=fun a w S st=>by
 have hgs' :gs<a.tmps.size:=by rw [st.facts.size];simpa [vD] using hgs
 have hw:=um (o:=⟨aR,op,ty,pos,after,some (j,pol)⟩) rfl hj hgs' (ro H S a st.facts)
 have X:=k a w S st
 unfold wpListIn at X ⊢
 rw [hw,e]
 rw [bJ (show Region.wanted ⟨aR,op,ty,pos,after,none⟩ (yielded ops a.tmps)=true from rfl)]at X
 rw [bJ (show(true&&(pol==pol))=true from by simp)]
 exact X
def ub{c:Operand}{b:Bool}{t:Ty}(hc:aY E.N G c (tD rB b))(e:b=true)(V:aY E.N G x t):cI E O G ⟨dst,.pick c x y,ty,pos,after,g⟩ t:=y5 hc (fun _=>V) (fun h=>by rw [e]at h;cases h)
def sF{c:Operand}{b:Bool}{t:Ty}(hc:aY E.N G c (tD rB b))(e:b=false)(hy:aY E.N G y t):cI E O G ⟨dst,.pick c x y,ty,pos,after,g⟩ t:=y5 hc (fun h=>by rw [e]at h;cases h) (fun _=>hy)
end

section
variable{dst:Option Tmp}
def Dw{o:Nat}{yt e:TypeId}(D:E.P.underlying t=some (.pointer e))(V:aY E.N G x (M (Z b o))):cI E O G ⟨dst,.binOp .eql t x (.const (.pointer none)) yt,ty,pos,after,g⟩ (tD rB false):=
 .of_pure fun a w S _ _ hf=>by
  have X:a.eval x=Z b o:=V S a hf
  have h3:(Op.equal t (Z b o) (.pointer none)).run E.P w= .ok false w:=yX fun aR=>by simp [Op.equalIn,j3 D,Z]
  have hcn:a.eval (.const (.pointer none))= .pointer none:=rfl
  refine⟨.bool false,?_,jc.2 rfl⟩
  unfold Z at X h3
  simp [execOp,X,hcn,eqGuard,binOp,h3]
def Ju(n:FuncId)(fts:List Ty):Ty where
 p:=fun S v=> ∃fst:List Value,v= .func (.func n) fst.toArray #[]/\xH S fts fst
 mono:=fun h ⟨cap,e,k⟩=>⟨cap,e,xH.mono h k⟩
def wl{fid:FuncId}{fst:List Operand}{fts:List Ty}(hf:lv E.N G fst fts):cI E O G ⟨dst,.makeFunc (.func fid) fst.toArray #[],ty,pos,after,g⟩ (Ju fid fts):=
 .of_pure fun a w S _ _ hF=>⟨.func (.func fid) (fst.map a.eval).toArray #[],by simp [execOp,Instr.makeFunc],_,rfl,hf.tys hF⟩
end
section
def fa{b:Bool}(hj:(ops[j]?).bind (·.dst)=some gs)(hgs:Nat.blt gs E.N.n=true)(H:cC G gs=some (tD rB b))(e:b= !pol)(hd:Nat.blt aR E.N.n=true)(k:RG E ops aK rest O ((aR,qg false (tD rB true))::G)):
  RG E ops aK (⟨some aR,op,ty,pos,after,some (j,pol)⟩::rest) O G:=fun a w S st=>by
 have hgs' :gs<a.tmps.size:=by rw [st.facts.size];simpa [vD] using hgs
 have hw:=um (o:=⟨some aR,op,ty,pos,after,some (j,pol)⟩) rfl hj hgs' (ro H S a st.facts)
 refine wpListIn_step fun h2 hK=>?_
 rw [hw,e,bk (by cases pol<;>simp)]
 exact⟨fun _ _=>trivial,hK _ _ (k _ _ S (st.step (jS _ _ _) st.sat hd rfl))⟩
def N5{b:Bool}(hj:(ops[j]?).bind (·.dst)=some gs)(hgs:Nat.blt gs E.N.n=true)(H:cC G gs=some (qg false (tD rB b)))(hd:Nat.blt aR E.N.n=true)(k:RG E ops aK rest O ((aR,qg false (tD rB true))::G)):
  RG E ops aK (⟨some aR,op,ty,pos,after,some (j,pol)⟩::rest) O G:=fun a w S st=>by
 have hgs' :gs<a.tmps.size:=by rw [st.facts.size];simpa [vD] using hgs
 have hw:=um (o:=⟨some aR,op,ty,pos,after,some (j,pol)⟩) rfl hj hgs' (Cn H S a st.facts)
 refine wpListIn_step fun h2 hK=>?_
 rw [hw,bk (by simp)]
 exact⟨fun _ _=>trivial,hK _ _ (k _ _ S (st.step (jS _ _ _) st.sat hd rfl))⟩
end
def uL{n:FuncId}{fts ts:List Ty}{fo:Operand}{xs:List Operand}(O1 Or:List OE){t:OI->Ty}{O2 post:OI->List OE}(hO:O=O1++Or)(hc:ah E.P n=true)(hs:bK E.P n (fts++ts) O1 t O2)(hf:aY E.N G fo (Ju n fts))(V:lv E.N G xs ts)(hpost: ∀i,O2 i++Or=post i):
  EffOK E O G ⟨some aR,.call ⟨.value fo,xs.toArray,ats⟩,ty,pos,after,g⟩ post t:=fun a w S hsat ho hF H=>by
 subst hO
 obtain rfl:(fun i=>O2 i++Or)=post:=funext hpost
 obtain⟨fst,e,hfst⟩:=hf S a hF
 have hr:(execOp a.eval ⟨some aR,.call ⟨.value fo,xs.toArray,ats⟩,ty,pos,after,g⟩).run E.P w= .ok (.enter n (fst.toArray++(xs.map a.eval).toArray)) w:=by
  simp [execOp,resolve,e,Deferred.ofValue,invoke,jf hc]
 refine⟨fun c h=>(by cases h),?_⟩
 rw [hr]
 have e2:fst.toArray++(xs.map a.eval).toArray=(fst++(xs.map a.eval)).toArray:=by simp
 rw [e2]
 exact(hs w S _ hsat (hfst.append (V.tys hF)) (ru ho).1.weak).mono fun en w' ⟨i,v,S',he,hv,X,K,h3,h4⟩=>⟨_,he,v,S',i,rfl,X.more fun b ⟨f,hf,H⟩=>⟨f,DO _ hf,H⟩,K,fe.turn ho H X h3 h4,hv⟩
def Sc(h:qx xs ys=zs):zs.length=xs.length:=by rw [<-h,tW]
def Pt(hq:q.sz=1)(hu:E.P.underlying dT=some (.slice el))(hs:(E.P.info? el).map (·.size)=some 1)(V:aY E.N G x (M (ay l cap xs.length)))(hy:aY E.N G y (tD (f6 q) ys))(hz:qx xs ys=zs):
  EffOK E (db q U l cap xs::O) G ⟨some aR,.call ⟨.builtin .copy,#[x,y],#[dT,sT]⟩,ty,pos,after,g⟩ (fun _=>db q U l cap zs::O) (fun _=>tD (rI .i64) ((min ys.length xs.length:Nat):Int)):=fun a w S hs0 ho hf H=>by
 subst hz
 have X:a.eval x=ay l cap xs.length:=V S a hf
 have hy1:=hy S a hf
 obtain⟨ad,cap',K,_,_,h3⟩:=mf.1 hy1
 obtain⟨⟨cells,hraw,hrc,hS⟩,hbase⟩:=ho.1
 have hm:min ys.length xs.length<=ys.length:=Nat.min_le_left _ _
 cases l with
 |none=>
  have hx0:xs=[]:=tH hraw.1
  subst hx0
  have hrun:(Builtin.copy_ #[dT,sT] ty #[.slice none 0 0,a.eval y]).run E.P w= .ok (goInt 0) w:=by
   rw [K]
   cases hel:E.P.info? el with
   |none=>simp [hel]at hs
   |some i=>
    have hi:i.size=1:=by simpa [hel] using hs
    cases ad with
    |none=>simp [Builtin.copy_,j3 hu,Builtin.lenOf,Builtin.firstCells,sizeOf,typeInfo,hel,hi,storeCells]
    |some p=>
     have hl:=run_loadCells_list (P:=E.P) w p [] (fun j v hv=>by simp at hv)
     simp only [vX]at hl
     simp [Builtin.copy_,j3 hu,Builtin.lenOf,Builtin.firstCells,sizeOf,typeInfo,hel,hi,storeCells,hl]
  have hx' :(execOp a.eval ⟨some aR,.call ⟨.builtin .copy,#[x,y],#[dT,sT]⟩,ty,pos,after,g⟩).run E.P w= .ok (.value (goInt 0)) w:=by
   have h1' :a.eval x= .slice none 0 0:=X
   simp [execOp,resolve,h1',invoke,builtin,hrun]
  refine⟨fun c h=>(by cases h),?_⟩
  rw [hx']
  refine⟨_,S,ml,rfl,jS _ _ _,hs0,?_,?_⟩
  ·have e:qx ([]:List α) ys=[]:=by unfold qx;simp
   rw [e];exact ho
  ·exact eK.2 (by simp [goInt])
 |some b=>
  obtain⟨cur,g1,g2,g3,g4,g5⟩:=hraw
  rw [hq,AQ]at g4 g5
  have h1' :a.eval x= .slice (some ⟨b,0,none⟩) xs.length cap:=X
  have hxl:xs.length<=cur.toList.length:=by simp [g4];exact g2
  obtain⟨cs,hcs,hrun,hlen⟩: ∃cs,sh q S cs (ys.take (min ys.length xs.length))/\(Builtin.copy_ #[dT,sT] ty #[.slice (some ⟨b,0,none⟩) xs.length cap,a.eval y]).run E.P w= .ok (goInt cs.length) (w.setRow b (cs++cur.toList.drop cs.length).toArray)/\cs.length=min ys.length xs.length:=by
   rw [K]
   rcases h3 with rfl|⟨b',off,c,T',fr,rfl,e2,e3⟩
   ·refine⟨[],by simp [sh],?_,by simp⟩
    cases hel:E.P.info? el with
    |none=>simp [hel]at hs
    |some i=>
     have hi:i.size=1:=by simpa [hel] using hs
     have hself:w.setRow b (([]:List Value)++cur.toList.drop ([]:List Value).length).toArray=w:=by simpa using setRow_self w b cur U (0,0) g1
     rw [hself]
     cases ad with
     |none=>simp [Builtin.copy_,j3 hu,Builtin.lenOf,Builtin.firstCells,sizeOf,typeInfo,hel,hi,storeCells]
     |some p=>
      have hl:=run_loadCells_list (P:=E.P) w p [] (fun j v hv=>by simp at hv)
      simp only [vX]at hl
      simp [Builtin.copy_,j3 hu,Builtin.lenOf,Builtin.firstCells,sizeOf,typeInfo,hel,hi,storeCells,hl]
   ·obtain⟨c',h8,h9⟩:=hs0.part e2 (ll e3)
    obtain⟨d1,d2⟩:=Dt hq e3 hm
    rw [AI,hq,AQ,xK hm]at d1
    have hl:((c.toList.drop off).take (min ys.length xs.length)).length=min ys.length xs.length:=by
     rw [ll d1,hq,AQ,DE,xK hm]
    refine⟨_,d1,?_,hl⟩
    have:=run_copy_row (P:=E.P) w dT sT ty el b 0 xs.length cap ⟨b',off,none⟩ ys.length cap' cur U ((c.toList.drop off).take (min ys.length xs.length)) hu hs g1 hl (fun j v hv=>?_) (by rw [hl];simp at hxl;omega) (yZ d1)
    ·simpa using this
    ·have hj:j<min ys.length xs.length:=by rw [<-hl];exact(tp.1 hv).1
     have hcell:w.cell? ⟨b',off+j,none⟩=c'[off+j]? :=xh h8 _
     rw [jR]
     show w.cell? ⟨b',off+j,none⟩=_
     rw [hcell]
     have h10:((c'.toList.drop off).take (ys.length*q.sz))[j]? =((c.toList.drop off).take (ys.length*q.sz))[j]? :=by rw [h9]
     rw [zu (by rw [hq];omega),zu (by rw [hq];omega),wF,wF]at h10
     rw [zu hj,wF]at hv
     rw [<-hv,<-Array.getElem?_toList,h10]
  have hx' :(execOp a.eval ⟨some aR,.call ⟨.builtin .copy,#[x,y],#[dT,sT]⟩,ty,pos,after,g⟩).run E.P w= .ok (.value (goInt cs.length)) (w.setRow b (cs++cur.toList.drop cs.length).toArray):=by
   simp [execOp,resolve,h1',invoke,builtin,hrun]
  refine⟨fun c h=>(by cases h),?_⟩
  rw [hx']
  have hle:min ys.length xs.length<=xs.length:=Nat.min_le_right _ _
  have hrc' :sh q S (cur.toList.take xs.length) xs:=by rw [g5];exact hrc
  obtain⟨_,d4⟩:=Dt hq hrc' hle
  have hno:S b=none:=hS b rfl
  have hnew:AE false q U (some b) cap (qx xs ys) (w.setRow b (cs++cur.toList.drop cs.length).toArray) S:=by
   refine⟨(cs++cur.toList.drop cs.length).take xs.length,⟨_,setRow_heap w b cur _ U _ g1,by rw [tW];exact g2,g3,?_,by rw [tW,hq,AQ]⟩,?_,fun b' hb' =>by cases hb';exact hno⟩
   ·simp [hlen,hq];simp at hxl;omega
   ·unfold qx
    have e1:ys.take xs.length=ys.take (min ys.length xs.length):=by rw [List.take_eq_take_iff];omega
    have e2:(cs++cur.toList.drop cs.length).take xs.length=cs++(cur.toList.take xs.length).drop cs.length:=by
     rw [List.take_append,uj (by omega),zC]
    rw [e1,e2,hlen]
    exact sD hcs d4
  obtain⟨k1,k2,k3⟩:=oN (O:=O) hs0 (w' :=w.setRow b (cs++cur.toList.drop cs.length).toArray) (db q U (some b) cap xs) (db q U (some b) cap (qx xs ys)) ho (fun k=>by simp [db,nd];exact eq_comm) (fun k=>by simp [db,nd];exact eq_comm) ⟨rfl,rfl,rfl,by simp [World.setRow],eJ _⟩ (fun k hk=>setRow_other w b k _ hk) hnew hno
  refine⟨_,S,ml,rfl,k1.more fun k hk=>⟨_,qa ..,by subst hk;rfl⟩,k2,k3,?_⟩
  rw [hlen]
  exact eK.2 rfl
def SK{e:Exit}(h:AT E aK e (bx (f6 r) T b xs::O) G):
  AT E aK e (bx rV T b (ay l cap xs.length)::tip r U l cap xs::O) G:=fun a w S st=>h a w S (st.own_map fun⟨⟨⟨g1,c,g2,g3⟩,g4⟩,g5,g6⟩=>by
 obtain⟨a',cap',e,X,K,h3⟩:=mf.1 (nr g6.1.1)
 exact⟨⟨⟨g1,c,g2,a',cap',by rw [g3.1,e],X,K,h3⟩,g4⟩,fun f hf=>g5 f (.tail _ hf),g6.2.2⟩)

def xT{α:Type}(n c:Int)(z:α):Option (List α):=if 0<=n/\n<=c/\c<=68719476736 then some (List.replicate n.toNat z)else none
def Je{n c:Int}{z:α}(h:xT n c z=some zs): ∃m k:Nat,n=m/\c=k/\m<=k/\k<=68719476736/\zs=List.replicate m z:=by
 unfold xT at h
 split at h
 ·rename_i hc;exact⟨n.toNat,c.toNat,by omega,by omega,by omega,by omega,by simpa using h.symm⟩
 ·cases h
def Pb(z:List Value)(m k sz:Nat)(h:z.length=sz)(hk:m<=k):(madeCells z.toArray (k*sz)).toList.take (m*sz)=(List.replicate m z).flatten:=by
 rw [wo z k sz h]
 obtain⟨j,rfl⟩: ∃j,k=m+j:=⟨k-m,by omega⟩
 rw [show List.replicate (m+j) z=List.replicate m z++List.replicate j z from(List.replicate_append_replicate ..).symm,List.flatten_append,Dh (by rw [flat_len h];omega)]
 exact uj (by rw [flat_len h];omega)
section
def Cz{x:α}{n c:Int}{y' :Operand}{k k' :IntKind}(ti:TI E.P T sz bytes agg z)(hsz:r.sz=sz)(hz:Nat.beq z.length sz=true)(h128:Nat.ble bytes 2048=true)(D:E.P.underlying t=some (.slice T))(V: ∀S,r.rc S z x)(hy:aY E.N G y (tD (rI k) n))(hy' :aY E.N G y' (tD (rI k') c))(h:xT n c x=some zs):
  EffOK E O G ⟨some aR,.makeSlice t y y',ty,pos,after,g⟩ (fun i=>db r T (i.h 0).1 (i.h 0).2 zs::O) (fun i=>M (ay (i.h 0).1 (i.h 0).2 zs.length)):=fun a w S hs ho hf H=>by
 subst hsz
 obtain⟨i,zv,hi,X,K,h3,h4⟩:=ti.get
 obtain⟨m,c,rfl,rfl,hmc,hm,rfl⟩:=Je h
 have hyv:=eK.1 (hy S a hf)
 have hyv' :=eK.1 (hy' S a hf)
 have hz2:z.length=r.sz:=qy hz
 have h128' :=sn h128
 have hbytes:(i.bytes:Int)*(c:Int)<=281474976710656:=by
  have:i.bytes*c<=2048*68719476736:=Nat.mul_le_mul (by omega) hm
  have h5:((i.bytes*c:Nat):Int)<=281474976710656:=by omega
  rwa [Int.natCast_mul]at h5
 have hr:=run_make (P:=E.P) w t T i zv D hi h3 k k' (m:Int) (c:Int) (by omega) (by omega) hbytes (by omega)
 rw [xM,xM,X,h4]at hr
 obtain⟨he,hs',hno⟩:=ki (w:=w) (.cells (madeCells z.toArray (c*r.sz)) T (0,0)) hs
 have hrun:(execOp a.eval ⟨some aR,.makeSlice t y y',ty,pos,after,g⟩).run E.P w= .ok (.value (.slice (some ⟨w.heap.size,0,none⟩) m c)) (w.alloc (.cells (madeCells z.toArray (c*r.sz)) T (0,0))):=by
  simp [execOp,hyv,hyv',hr]
 refine⟨fun c h=>(by cases h),?_⟩
 rw [hrun]
 have hfl:=flat_len hz2 m
 refine⟨_,S,oi (some w.heap.size) c,rfl,he.more fun _ H=>H.elim,hs',s3 ho he (e:=db r T (some w.heap.size) c (List.replicate m x)) ⟨(List.replicate m z).flatten,⟨_,xS w _,by simpa using hmc,by simp only [maxLen];omega,by rw [size_madeCells],?_⟩,wg V S m,fun b H=>by rw [<-rE H];exact hno⟩ (fun b H=>AR (rE H)) H,?_⟩
 ·rw [DQ]
  exact Pb z m c r.sz hz2 hmc
 ·show _=ay _ _ _
  rw [DQ];rfl
end

structure abR{κ:Type} [DecidableEq κ](P:Program)(kt:TypeId)(kv:κ->Value):Prop where
 chk: ∀e w k,(Instr.checkKey e 10000 kt (kv k)).run P w= .ok () w
 eql: ∀w a b,(Op.equal kt (kv a) (kv b)).run P w= .ok (decide (a=b)) w
 wide:(match P.underlying kt with|some (.array _ _)|some (.struct _)=>true|_=>false)=true
 same: ∀k,Instr.sameBits 10000 (kv k) (kv k)=true
 inj: ∀a b,kv a=kv b->a=b
def TM(p:Int×Int):Value:= .agg #[.int .i64 p.1,.int .i64 p.2]
def k2(l:List Int):Int×Int:=(l.getD 0 0,l.getD 1 0)
variable{kt:TypeId}
def ER{kt el:Nat}(h:P.underlying kt=some (.array 2 el))(he:P.underlying el=some (.int .i64))(ti:TI P el sz bytes agg z)(hsz:Nat.beq sz 1=true)(hq:KY P kt (o7 (rI .i64) 2)):abR P kt TM where
 chk:=fun e w k=>by
  obtain⟨i,zv,hi,hs,_⟩:=ti.get
  have X:sz=1:=qy hsz
  have ha:(isAgg el).run P w= .ok false w:=by
   simp [isAgg,j3 he,Result.andThen]
  have h3: ∀(j:Nat) (x:Int) (cs:Array Value),cs[j]? =some (.int .i64 x)->(part el cs (j*i.size)).run P w= .ok (.int .i64 x) w:=fun j x cs hj=>by
   simp [part,ha,Result.andThen,hs,X,hj]
  have h4: ∀x:Int,(Instr.checkKey e 9999 el (.int .i64 x)).run P w= .ok () w:=fun x=>by
   show(Instr.checkKey e (9998+1) el (.int .i64 x)).run P w= .ok () w
   unfold Instr.checkKey
   simp only [uU,j3 he,vY]
   rfl
  have e1:=h3 0 k.1 #[.int .i64 k.1,.int .i64 k.2] rfl
  have e2:=h3 1 k.2 #[.int .i64 k.1,.int .i64 k.2] rfl
  show(Instr.checkKey e (9999+1) kt (TM k)).run P w= .ok () w
  unfold Instr.checkKey
  simp only [TM,uU,j3 h,vY,Std.Legacy.Range.forIn_eq_forIn_range',Std.Legacy.Range.size,Nat.sub_zero,Nat.add_sub_cancel,Nat.div_one,List.range'_succ,List.range'_zero,List.forIn_cons,List.forIn_nil,sizeOf,typeInfo,hi,Sem.run_pure,Nat.zero_mul,uT,Nat.one_mul]
  simp only [Nat.zero_mul,Nat.one_mul]at e1 e2
  simp [e1,e2,h4,Result.andThen,hi]
 eql:=fun w a b=>by
  have:=hq.run (fun _=>none) [.int .i64 a.1,.int .i64 a.2] [.int .i64 b.1,.int .i64 b.2] [a.1,a.2] [b.1,b.2] 9980 w ⟨rfl,[_],[_],rfl,rfl,[_],[],rfl,rfl,rfl⟩ ⟨rfl,[_],[_],rfl,rfl,[_],[],rfl,rfl,rfl⟩
  have e1:decide (([a.1,a.2]:List Int)=[b.1,b.2])=decide (a=b):=by
   obtain⟨a1,a2⟩:=a;obtain⟨b1,b2⟩:=b;simp
  rw [e1]at this
  show(Op.equalIn (9980+20) kt (TM a) (TM b)).run P w=_
  exact this
 wide:=by rw [h]
 same:=fun k=>by
  show Instr.sameBits (9999+1) (TM k) (TM k)=true
  unfold Instr.sameBits TM
  simp only [List.zip_cons_cons,List.zip_nil_left,zB,List.all_nil]
  unfold Instr.sameBits
  simp
 inj:=fun a b h=>by
  obtain⟨a1,a2⟩:=a;obtain⟨b1,b2⟩:=b
  simpa [TM] using h
section
variable [DecidableEq κ]
end
section
variable [DecidableEq κ]
end

def Rk(p:Int×Int×Int):Value:= .agg #[.int .i64 p.1,.int .i64 p.2.1,.int .i64 p.2.2]
def ZC{kt el:Nat}{l:Array Field} [DecidableEq α]{mk:Int×Int×Int->α}(h:P.underlying kt=some (.struct l))(hl:l.toList.map (fun f=>(f.type,f.offset))=[(el,0),(el,1),(el,2)])(he:P.underlying el=some (.int .i64))(ti:TI P el sz bytes agg z)(hsz:Nat.beq sz 1=true)(hag:r.agg=true)(hr: ∀p:Int×Int×Int,r.rc (fun _=>none) [.int .i64 p.1,.int .i64 p.2.1,.int .i64 p.2.2] (mk p))(hinj: ∀p q,mk p=mk q->p=q)(hq:KY P kt r):abR P kt Rk where
 chk:=fun e w k=>by
  obtain⟨i,zv,hi,hs,_⟩:=ti.get
  have X:sz=1:=qy hsz
  have ha:(isAgg el).run P w= .ok false w:=by
   simp [isAgg,j3 he,Result.andThen]
  have h3: ∀(j:Nat) (x:Int) (cs:Array Value),cs[j]? =some (.int .i64 x)->(part el cs j).run P w= .ok (.int .i64 x) w:=fun j x cs hj=>by
   simp [part,ha,Result.andThen,hj]
  have h4: ∀x:Int,(Instr.checkKey e 9999 el (.int .i64 x)).run P w= .ok () w:=fun x=>by
   show(Instr.checkKey e (9998+1) el (.int .i64 x)).run P w= .ok () w
   unfold Instr.checkKey
   simp only [uU,j3 he,vY]
   rfl
  have e1:=h3 0 k.1 #[.int .i64 k.1,.int .i64 k.2.1,.int .i64 k.2.2] rfl
  have e2:=h3 1 k.2.1 #[.int .i64 k.1,.int .i64 k.2.1,.int .i64 k.2.2] rfl
  have e3:=h3 2 k.2.2 #[.int .i64 k.1,.int .i64 k.2.1,.int .i64 k.2.2] rfl
  obtain⟨l0,rfl⟩: ∃l0:List Field,l=l0.toArray:=⟨l.toList,by simp⟩
  have hlen:l0.length=3:=by simpa using congrArg List.length hl
  obtain⟨f0,f1,f2,rfl⟩: ∃f0 f1 f2,l0=[f0,f1,f2]:=by
   match l0,hlen with
   |[a,b,c],_=>exact⟨a,b,c,rfl⟩
  simp only [DL,List.map_nil,List.cons.injEq,Prod.mk.injEq,and_true]at hl
  obtain⟨⟨a0,b0⟩,⟨a1,b1⟩,⟨a2,b2⟩⟩:=hl
  show(Instr.checkKey e (9999+1) kt (Rk k)).run P w= .ok () w
  unfold Instr.checkKey
  simp only [Rk,uU,j3 h,vY]
  by_cases n0:f0.name= "_" <;>by_cases n1:f1.name= "_" <;>by_cases n2:f2.name= "_" <;>simp [n0,n1,n2,a0,a1,a2,b0,b1,b2,e1,e2,e3,h4,Result.andThen]
 eql:=fun w a b=>by
  have:=hq.run (fun _=>none) _ _ _ _ 9980 w (hr a) (hr b)
  have e1:decide (mk a=mk b)=decide (a=b):=Gg.2 ⟨fun e=>hinj a b e,fun e=>by rw [e]⟩
  rw [e1]at this
  have hv: ∀p:Int×Int×Int,r.val [.int .i64 p.1,.int .i64 p.2.1,.int .i64 p.2.2]=Rk p:=fun p=>by simp [Rp.val,hag,Rk]
  rw [hv,hv]at this
  show(Op.equalIn (9980+20) kt (Rk a) (Rk b)).run P w=_
  exact this
 wide:=by rw [h]
 same:=fun k=>by
  show Instr.sameBits (9999+1) (Rk k) (Rk k)=true
  unfold Instr.sameBits Rk
  simp only [List.zip_cons_cons,List.zip_nil_left,zB,List.all_nil]
  unfold Instr.sameBits
  simp
 inj:=fun a b h=>by
  obtain⟨a1,a2,a3⟩:=a;obtain⟨b1,b2,b3⟩:=b
  simpa [Rk] using h
section
variable [DecidableEq κ]
end
variable{os:Array Obj}
section
variable [DecidableEq κ]{hx:MV β}{os:List (Option Nat×Nat)}{h:Option κ}
end
section
variable{e:Exit}
end

section
variable [DecidableEq κ]
end
section
variable [DecidableEq κ]{u:Operand}
end
open Go.Sort Go.Shelf

def Bq{k:Nat}(h:k<w.heap.size):(grow w os).heap[k]? =w.heap[k]? :=by
 unfold grow;exact Array.getElem?_append_left h
variable{enc:α->Value}
def Kh [Inhabited α]{aR:Array α}{k:Nat}(h:k≠b):(putRow enc w b off aR).heap[k]? =w.heap[k]? :=by
 unfold putRow mapBlock
 rw [Array.getElem?_modify,bk (Ne.symm h)]
def Bp [Inhabited α]{m:Nat}{aR:Array α}{k:Nat}(hk:k<w.heap.size)(h:k≠b):(sortWorld enc w b off m aR os).heap[k]? =w.heap[k]? :=by
 unfold sortWorld
 rw [Bq (by rw [size_putRow];exact hk),Kh h];rfl
def Ip [Inhabited α]{m:Nat}{aR:Array α}{c:Array Value}{fr:Nat×Nat}(h:w.heap[b]? =some (.cells c T fr)):
  (sortWorld enc w b off m aR os).heap[b]? =some (.cells (putCells enc off aR c) T fr):=by
 have hlt:=(Hz.1 h).1
 unfold sortWorld
 rw [Bq (by rw [size_putRow];exact hlt)]
 unfold putRow mapBlock
 rw [Array.getElem?_modify,bJ rfl]
 show Option.map _ (w.heap[b]?)=_
 rw [h];rfl
def FW [Inhabited α]{aR:Array α}{c:Array Value}(h:aR.size<=c.size):(putCells enc 0 aR c).toList.take aR.size=aR.toList.map enc:=by
 apply List.ext_getElem?
 intro k
 by_cases hk:k<aR.size
 ·rw [zu hk]
  have hc:k<c.size:=by omega
  simp [putCells,hc,hk]
 ·rw [DP (by simp;omega),DP (by simp;omega)]
section
def KM{m:Nat}(hl:m=n)(ac:Nat)(hs:cC G ac=some (M (ay l cap n)))(k:RG E ops aK rest O ((ac,M (ay l cap m))::G)):RG E ops aK rest O G:=by
 subst hl
 exact fun a w S st=>k a w S ⟨st.ext,st.sat,st.own,⟨st.facts.size,st.facts.defers,fun j t h=>by
  unfold cC at h
  by_cases H:Nat.beq ac j=true
  ·rw [H]at h
   have:=qy H
   subst this
   have e:M (ay l cap m)=t:=by simpa using h
   rw [<-e];exact st.facts.at_ ac _ hs
  ·rw [AL]at H
   rw [H]at h
   exact st.facts.at_ j t h⟩⟩
end

def YJ{α:Type}(cmp:α×α->Option Int)(x y:α):Bool:=
 match cmp (x,y)with
 |some c=>decide (c<0)
 |none=>false
def ZE{α:Type}(lt:α->α->Bool)(x:α):List α->List α
 |[]=>[x]
 |y::ys=>if lt y x then y::ZE lt x ys else x::y::ys
def VG{α:Type}(lt:α->α->Bool):List α->List α
 |[]=>[]
 |x::xs=>ZE lt x (VG lt xs)
structure Good{α:Type}(cmp:α×α->Option Int)(xs:List α):Prop where
 len:xs.length<=1099511627776
 tot: ∀x∈xs,∀y∈xs,(cmp (x,y)).isSome=true
 irr: ∀x∈xs,YJ cmp x x=false
 tr: ∀x∈xs,∀y∈xs,∀z∈xs,YJ cmp x y=true->YJ cmp y z=true->YJ cmp x z=true
 anti: ∀x∈xs,∀y∈xs,YJ cmp x y=false->YJ cmp y x=false->x=y
def sortI(xs:List Int):List Int:=xs.mergeSort fun x y=>decide (x<=y)
def Cb(xs:List Int):(sortI xs).length=xs.length:=by unfold sortI;simp
def Eb(xs:List Int):Option (List Int):=if xs.length<=68719476736 then some (sortI xs)else none
def Jw{xs ys:List Int}(h:Eb xs=some ys):xs.length<=68719476736/\ys=sortI xs:=by
 unfold Eb at h
 split at h
 ·exact⟨by assumption,by simpa using h.symm⟩
 ·cases h


def M4{k:IntKind}{S:SH}: ∀{xs:List Int} {cs:List Value},sh (rI k) S cs xs->cs=xs.map (Value.int k)
 |[],cs,h=>by rw [show cs=[]from h];rfl
 |x::xs,cs,⟨a,b,e,X,K⟩=>by
  rw [e,show a=[.int k x]from X,M4 K]
  rfl
def Nr{k:IntKind}{S:SH}: ∀xs:List Int,sh (rI k) S (xs.map (Value.int k)) xs
 |[]=>rfl
 |x::xs=>⟨[.int k x],_,rfl,rfl,Nr xs⟩
def OF{ρ:Ren}(L:Lays.n189 P ρ){xs:List Int}(hlen0:xs.length<=68719476736)(hs:nm w S)(h:(db (rI .i64) T l cap xs).p w S):
  Calls P (ρ.f 189) #[ay l cap xs.length] w fun e w' =>e= .returned (.tuple #[])/\la (fun k=>l=some k) w S w' S/\nm w' S/\(db (rI .i64) T l cap (sortI xs)).p w' S:=by
 cases l with
 |none=>
  have V:xs=[]:=tH (by obtain⟨_,h4,_⟩:=h;exact h4.1)
  subst V
  exact(Any.slices_Sort_int_none (P:=P) (ρ:=ρ) L none 0 w).mono fun _ _ ⟨X,K⟩=>by subst K;exact⟨X,jS _ _ _,hs,by simpa [sortI] using h⟩
 |some b=>
  obtain⟨cells0,⟨cur,H,hle,hmax,hcs,hct⟩,hrc,hno0⟩:=h
  have hno:S b=none:=hno0 b rfl
  subst hct
  have X:(rI .i64).sz=1:=rfl
  rw [X,AQ]at hcs hrc
  have hcells:=M4 hrc
  have hH:Holds (Value.int .i64) w b 0 xs.toArray:=by
   intro j hj
   have hj' :j<xs.length:=by simpa using hj
   have hc:cur[j]? =some (Value.int .i64 xs.toArray[j]!):=by
    have:(cur.toList.take xs.length)[j]? =some (Value.int .i64 xs.toArray[j]!):=by
     rw [hcells,List.getElem?_map,getElem!_pos xs.toArray j hj]
     simp [hj']
    rw [zu (by omega)]at this
    simpa using this
   refine⟨by simp [World.cell?,H,hc],?_⟩
   simp [World.frozen?,H]
  have hblk:=(Hz.1 H).1
  have hcall:=calls_of_every_depth fun ht=>AnyS.slices_Sort_int_alone (P:=P) (ρ:=ρ) L ht b 0 cap xs w hH hblk (by omega)
  refine hcall.mono fun e w' ⟨he,n,os,hw⟩=>?_
  have hlen:=Cb xs
  have hw2:w' =sortWorld (Value.int .i64) w b 0 n (sortI xs).toArray os:=hw
  subst hw2
  refine⟨he,⟨rfl,rfl,rfl,Nat.le_add_right _ _,?_,fun k hk hkb=>Bp hk (fun e=>hkb (by rw [e])),SH.le_refl _,fun _ _ _=>rfl⟩,hs.same fun k o hk=>?_,⟨_,⟨_,Ip H,by omega,hmax,?_,rfl⟩,?_,hno0⟩⟩
  ·unfold sortWorld;rw [size_grow,size_putRow];exact Nat.le_add_right _ _
  ·have hkb:k≠b:=fun e=>by subst e;rw [hno]at hk;cases hk
   exact Bp (hs.lt hk) hkb
  ·simp [putCells,X,hcs]
  ·have e1:(sortI xs).length*(rI .i64).sz=(sortI xs).toArray.size:=by rw [X];simp
   rw [e1,FW (by simp;omega)]
   exact Nr (sortI xs)
section
def SC{ρ:Ren}(L:Lays.n189 E.P ρ){f:FuncId}(hf:ρ.f 189=f)(hc:ah E.P f=true){xs ys:List Int}(hy:Eb xs=some ys)(V:aY E.N G x (M (ay l cap n)))(hn:n=xs.length)(hd:Nat.blt aR E.N.n=true)(k:ys.length=n->RG E ops aK rest (db (rI .i64) T l cap ys::O) ((aR,D8)::G)):RG E ops aK (⟨some aR,.call ⟨.value (.func f),#[x],ats⟩,ty,pos,after,none⟩::rest) (db (rI .i64) T l cap xs::O) G:= .of rfl fun a w S st=>by
 obtain⟨hl0,rfl⟩:=Jw hy
 subst hf
 subst hn
 have X:a.eval x=ay l cap xs.length:=V S a st.facts
 have hr:(execOp a.eval ⟨some aR,.call ⟨.value (.func (ρ.f 189)),#[x],ats⟩,ty,pos,after,none⟩).run E.P w= .ok (.enter (ρ.f 189) #[ay l cap xs.length]) w:=by
  have e0:a.eval (.func (ρ.f 189))= .func (.func (ρ.f 189)) #[] #[]:=rfl
  simp [execOp,resolve,e0,X,Deferred.ofValue,invoke,jf hc]
 refine⟨fun c h=>(by cases h),?_⟩
 rw [hr]
 refine(OF L hl0 st.sat st.own.1.1).mono fun e w' ⟨he,hext,hsat,hp⟩=>⟨_,he,?_⟩
 have hfp: ∀g∈O,∀b,g.fp b-> ¬(l=some b):=fun g Y b H hl=>st.own.2.1 g Y b hl H
 refine k (Cb xs) _ _ S ⟨st.ext.step hext (fun c hc=>st.own.1.2 c hc),hsat,⟨⟨hp,st.own.1.2⟩,st.own.2.1,st.own.2.2.ext hext hfp⟩,?_⟩;exact(st.facts.mono hext.keep).put hd trivial
end
end Go.Proofs.YtdohlidddcgfjaaGreat

