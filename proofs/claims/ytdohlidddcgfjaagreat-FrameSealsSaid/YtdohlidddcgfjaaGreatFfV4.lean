/- bS of this claim: W58, W66, W63, W59, W61, W62, W60, W44, W55, W29. -/
import Derived.Test.YtdohlidddcgfjaaGreatFfV3
import Derived.Test.YtdohlidddcgfjaaGreatFfV2
import Derived.WideKeyRuns
import Derived.Test.YtdohlidddcgfjaaGreatFfV1
import Derived.WideKeyEntry
import Derived.Shelf.GgSortFunc.Insertion
import Derived.Shelf.Slices.In.SortNone
set_option linter.all false
namespace Go.Proofs.YtdohlidddcgfjaaGreat
open Go

def rPt{α:Type}(r:Rp α):Rp α where
 sz:=1
 agg:=false
 rc:=fun S cs x=> ∃v,cs=[v]/\(dk r x).p S v
 mono:=fun h ⟨v,e,k⟩=>⟨v,e,(dk r _).mono h k⟩
 len:=fun⟨_,e,_⟩=>by rw [e];rfl
 one:=fun⟨v,e,b,off,c,U,fr,h,_⟩ c' hc=>by rw [e]at hc;simp at hc;subst hc;rw [h];rfl
 sc:=fun _=>rfl
variable{S:SH}{α:Type}{r:Rp α}{v:Operand}{w:World}{x:Operand}
def UH{x:α}{v:Value}:(tD (rPt r) x).p S v↔(dk r x).p S v:=by
 constructor
 ·rintro⟨cs,rfl,w,rfl,h⟩;exact h
 ·intro h;exact⟨[v],rfl,v,rfl,h⟩
variable{T:TypeId}{b:Nat}{β:Type}{q:Rp α}{y:Operand}
def aaO{rd:Rp β}{x:α}{y:β}(h:(Q r T b x).p w S)(hs:mA w S)(cv: ∀cs,r.rc S cs x->rd.rc S cs y): ∃S1,SH.le S S1/\mA w S1/\(dk rd y).p S1 (M b 0):=by
 obtain⟨hn,c,X,d⟩:=h
 have hle:SH.le S (S.set b (.cells c T (0,0))):=vN fun q hq=>(by rw [hn]at hq;cases hq)
 have hsat:mA w (S.set b (.cells c T (0,0))):=hs.set X (tS _) fun q hq=>by rw [hn]at hq;cases hq
 have h4:=cv _ d
 have hl:c.toList.length=rd.sz:=rd.len h4
 refine⟨_,hle,hsat,b,0,c,T,(0,0),rfl,m5 _ _ _,?_⟩
 rw [zF,ul (by omega)]
 exact rd.mono hle h4
variable{E:En}{G:mg}{N:Fr}{O:List OE}{after:Array Edge}{ats:Array TypeId}{dst:Option Tmp}{el:TypeId}{g:Option (Nat×Bool)}{i:Operand}{k:IntKind}{κ:Type}{m:List (κ×β)}{n off:Nat}{pos:String}{t ty:TypeId}{xs ys:List α}{γ:β->Ty}
section
def SJ{f:FuncId}{xs:List Operand}{ts:List Ty}{t:Ty}{rd:Rp β}{x:α}{y:β}(hm:Q r T b x∈O)(hc:ak E.P f=true)(hs:dR E.P f ts t)(cv: ∀w S cs,eD E.base E.B w S O->r.rc S cs x->rd.rc S cs y)(V: ∀(S S1:SH) (a:Act),bS E.N S a G->SH.le S S1->(dk rd y).p S1 (M b 0)->xn S1 ts (xs.map a.eval))(htf: ∀(S S' :SH) (v:Value),t.p S v->t.p S' v):
  cu E O G ⟨dst,.call ⟨.value (.func f),xs.toArray,ats⟩,ty,pos,after,g⟩ t:=fun a w S hS hO hF=>by
 have hr:(execOp a.eval ⟨dst,.call ⟨.value (.func f),xs.toArray,ats⟩,ty,pos,after,g⟩).run E.P w= .ok (.enter f (xs.map a.eval).toArray) w:=by
  simp [execOp,resolve,Act.eval,Deferred.ofValue,invoke,iK hc]
 refine⟨fun c h=>(by cases h),?_⟩
 rw [hr]
 obtain⟨S1,k1,k2,k3⟩:=aaO (eD.mem hO _ hm).1 hS (fun cs h=>cv w S cs hO h)
 exact(hs w S1 _ k2 (V S S1 a hF k1 k3)).mono fun e w' ⟨v,S',he,Y,X,d⟩=>⟨v,he,v,S,rfl,
  ⟨Y.os,Y.tape,Y.output,Y.drawn,Y.size,Y.heap,SH.le_refl _,fun _ _ _=>rfl⟩,hS.same fun b o k=>Y.heap b (hS.lt k) (fun H=>H),htf S' S v d⟩
def qb(t:Nat->Ty):Ty where
 p:=fun S v=> ∀b,(t b).p S v
 mono:=fun h k b=>(t b).mono h (k b)
def E4{o:Operand}{t:Nat->Ty}(h: ∀b,aJ N G o (t b)):aJ N G o (qb t):=fun S a hf b=>h b S a hf
def aaR{o:Operand}{t:Nat->Ty}(b:Nat)(h:aJ N G o (qb t)):aJ N G o (t b):=fun S a hf=>h S a hf b

def tI{γ:Type}{r' :Rp γ}{q:Rp β}{hs hs' :HL}{x:α}{x' :γ}{y:β}(h:vO r r' off q x y x')(hk:ZP hs off q.sz none hs')(hoff:Nat.ble (off+q.sz) r.sz=true):vO (rH r hs) (rH r' hs') off q x y x' :=fun S cs ds Y X=>by
 refine⟨h S cs ds Y.1 X,fun p hp=>?_⟩
 rcases hk.all p hp with⟨e,_⟩|⟨g1,g2⟩
 ·cases e
 ·have hl:=r.len Y.1
  rw [uS (q.len X) (by have:=sb hoff;omega) g2]
  exact Y.2 _ (tk g1)
def Up{γ:Type}{r' :Rp γ}{x:α}{x' :γ}{hs:HL}{cs:List Value}(h:(rH r hs).rc S cs x)(k:r.rc S cs x->r'.rc S cs x'):(rH r' hs).rc S cs x' :=⟨k h.1,h.2⟩

def Dz(hq:q.sz=1){cs:List Value}{m:Nat}(h:rh q S cs xs)(hm:m<=xs.length):rh q S (cs.take m) (xs.take m)/\rh q S (cs.drop m) (xs.drop m):=by
 have:=qq (xs:=xs.take m) (ys:=xs.drop m) (by rw [sL];exact h)
 rwa [DZ,xq hm,hq,AE]at this
def pD{α:Type}(xs ys:List α):List α:=ys.take xs.length++xs.drop (min ys.length xs.length)
def s7:(pD xs ys).length=xs.length:=by
 unfold pD
 simp
 omega
def KF{p:Operand}(hu:E.P.underlying T=some (.array n el))(hs:((E.P.info? el).map (·.size)).isSome=true)(hp:aJ E.N G p (Z (M b 0))):
  cu E O G ⟨dst,.slice T p none none none,ty,pos,after,g⟩ (Z (.slice (some ⟨b,0,none⟩) n n)):= .of_pure fun a w S _ _ hf=>by
 have Y:a.eval p=M b 0:=hp S a hf
 cases hq:E.P.info? el with
 |none=>simp [hq]at hs
 |some i=>exact⟨_,by simp [execOp,Y,M,Instr.sliceAt,jt hu,Instr.sureAddr,Instr.sliceBounds,sizeOf,typeInfo,hq,Result.andThen];intro _;rfl,rfl⟩
end
variable{P:Program}{bx:Exit->Act->World->Prop}{U:TypeId}{agg:Bool}{bytes cap h3:Nat}{dT:TypeId}{gs:Nat}{hi:Int}{j:Nat}{l:Option Nat}{lo:Int}{mm:Bool}{op:Op}{ops:Array Oper}{pol:Bool}{rest:List Oper}{sT:TypeId}{sz:Nat}{z:List Value}{zs:List α}
section
variable{c:Code}
def QS(hq:q.sz=1)(hu:E.P.underlying dT=some (.slice el))(hs:(E.P.info? el).map (·.size)=some 1)(V:aJ E.N G x (Z (.slice (some ⟨b,0,none⟩) n n)))(hy: ∀a w S,mA w S->eD E.base E.B w S (Q (nQ q n) T b xs::O)->bS E.N S a G-> ∃S1,mA w S1/\(tD (ga q) ys).p S1 (a.eval y)/\ ∀cs zs,rh q S1 cs zs->rh q S cs (zs:List α)):
  EffOK E (Q (nQ q n) T b xs::O) G ⟨some h3,.call ⟨.builtin .copy,#[x,y],#[dT,sT]⟩,ty,pos,after,g⟩ (fun _=>Q (nQ q n) T b (pD xs ys)::O) (fun _=>tD (rI .i64) ((min ys.length n:Nat):Int)):=fun a w S hs0 ho hf H=>by
 have Y:a.eval x= .slice (some ⟨b,0,none⟩) n n:=V S a hf
 obtain⟨S1,hS1,hy1,hback⟩:=hy a w S hs0 ho hf
 obtain⟨ad,cap,X,_,_,d⟩:=j6.1 hy1
 obtain⟨⟨hno,cur,h5,h6,h7⟩,_⟩:=ho.1
 have hcl:cur.toList.length=n:=by rw [kI h7,hq,h6,AE]
 have hm:min ys.length n<=ys.length:=Nat.min_le_left _ _
 obtain⟨cs,hcs,hrun,hlen⟩: ∃cs,rh q S cs (ys.take (min ys.length n))/\(Builtin.copy_ #[dT,sT] ty #[.slice (some ⟨b,0,none⟩) n n,a.eval y]).run E.P w= .ok (goInt cs.length) (w.setRow b (cs++cur.toList.drop cs.length).toArray)/\cs.length=min ys.length n:=by
  rw [X]
  rcases d with rfl|⟨b',off,c,T',fr,rfl,e2,e3⟩
  ·refine⟨[],by simp [rh],?_,by simp⟩
   cases hel:E.P.info? el with
   |none=>simp [hel]at hs
   |some i=>
    have hi:i.size=1:=by simpa [hel] using hs
    have hself:w.setRow b (([]:List Value)++cur.toList.drop ([]:List Value).length).toArray=w:=by simpa using setRow_self w b cur T (0,0) h5
    rw [hself]
    cases ad with
    |none=>simp [Builtin.copy_,jt hu,Builtin.lenOf,Builtin.firstCells,sizeOf,typeInfo,hel,hi,storeCells]
    |some p=>
     have hl:=run_loadCells_list (P:=E.P) w p [] (fun j v hv=>by simp at hv)
     simp only [vk]at hl
     simp [Builtin.copy_,jt hu,Builtin.lenOf,Builtin.firstCells,sizeOf,typeInfo,hel,hi,storeCells,hl]
  ·obtain⟨c',h8,h9⟩:=hS1.part e2 (kI e3)
   obtain⟨d1,d2⟩:=Dz hq e3 hm
   rw [Ax,hq,AE,xq hm]at d1
   have hl:((c.toList.drop off).take (min ys.length n)).length=min ys.length n:=by
    rw [kI d1,hq,AE,DZ,xq hm]
   have hcs:cur.size=n:=by simpa using hcl
   refine⟨_,hback _ _ d1,?_,hl⟩
   have:=run_copy_row (P:=E.P) w dT sT ty el b 0 n n ⟨b',off,none⟩ ys.length cap cur T ((c.toList.drop off).take (min ys.length n)) hu hs h5 hl (fun j v hv=>?_) (by rw [hl];omega) (yK d1)
   ·simpa using this
   ·have hj:j<min ys.length n:=by rw [<-hl];exact(sy.1 hv).1
    have hcell:w.cell? ⟨b',off+j,none⟩=c'[off+j]? :=wN h8 _
    rw [jq]
    show w.cell? ⟨b',off+j,none⟩=_
    rw [hcell]
    have h10:((c'.toList.drop off).take (ys.length*q.sz))[j]? =((c.toList.drop off).take (ys.length*q.sz))[j]? :=by rw [h9]
    rw [y9 (by rw [hq];omega),y9 (by rw [hq];omega),vX,vX]at h10
    rw [y9 hj,vX]at hv
    rw [<-hv,<-Array.getElem?_toList,h10]
 have hx' :(execOp a.eval ⟨some h3,.call ⟨.builtin .copy,#[x,y],#[dT,sT]⟩,ty,pos,after,g⟩).run E.P w= .ok (.value (goInt cs.length)) (w.setRow b (cs++cur.toList.drop cs.length).toArray):=by
  simp [execOp,resolve,Y,invoke,builtin,hrun]
 refine⟨fun c h=>(by cases h),?_⟩
 rw [hx']
 have hle:min ys.length n<=xs.length:=by rw [h6];exact Nat.min_le_right _ _
 obtain⟨_,d4⟩:=Dz hq h7 hle
 have hnew:(nQ q n).rc S (cs++cur.toList.drop cs.length) (pD xs ys):=by
  refine⟨by rw [s7];exact h6,?_⟩
  unfold pD
  rw [h6,hlen]
  have e1:ys.take n=ys.take (min ys.length n):=by
   rw [List.take_eq_take_iff];omega
  rw [e1]
  exact rs hcs d4
 obtain⟨g1,g2,g3⟩:=ny (O:=O) hs0 (w' :=w.setRow b (cs++cur.toList.drop cs.length).toArray) (Q (nQ q n) T b xs) (Q (nQ q n) T b (pD xs ys)) ho (fun _=>tv) (fun _=>tv) ⟨rfl,rfl,rfl,by simp [World.setRow],eo _⟩ (fun k hk=>setRow_other w b k _ hk) ⟨hno,_,setRow_heap w b cur _ T _ h5,by simpa using hnew⟩ hno
 refine⟨_,S,jQ,rfl,g1.more fun k hk=>⟨_,nM ..,hk⟩,g2,g3,?_⟩
 rw [hlen]
 exact dI.2 rfl
def PK(hs:dQ xs lo hi=some ys)(h:As mm r U l cap xs w S)(hS:mA w S): ∃S1,mA w S1/\(tD (ga r) ys).p S1 (nP r.sz l cap lo.toNat ys.length):=by
 obtain⟨S1,_,k2,hd⟩:=ac2 h hS
 refine⟨S1,k2,?_⟩
 obtain⟨l',m,rfl,rfl,h7,h8,rfl⟩:=fW hs
 obtain⟨ad,c,Y,X,d,h4⟩:=j6.1 hd
 have hlen:((xs.take m).drop l').length=m-l' :=by simp;omega
 cases l with
 |none=>
  obtain⟨cells,g1,_⟩:=h
  have V:xs=[]:=sd g1.1
  subst V
  have e:((([]:List α).take m).drop l')=[]:=by simp
  rw [e]
  exact Il
 |some b=>
  have e1:Value.slice (some ⟨b,0,none⟩) xs.length cap= .slice ad xs.length c:=Y
  injection e1 with e2 _ e3
  subst e2
  subst e3
  have h5:=wb h4 h7 h8 X
  refine j6.2 ⟨_,cap-l',?_,by omega,by omega,h5⟩
  unfold nP
  simp only [uY,hlen,pM,jq,vj]
  split<;>rfl
def I9{xs ys zs:List Int}(hm:ml mm (rI k) U l cap zs∈Q (nQ (rI k) n) T b xs::O)(hsl:dQ zs lo hi=some ys)(hu:E.P.underlying dT=some (.slice el))(hs:(E.P.info? el).map (·.size)=some 1)(V:aJ E.N G x (Z (.slice (some ⟨b,0,none⟩) n n)))(hy:aJ E.N G y (Z (nP 1 l cap lo.toNat ys.length))):
  EffOK E (Q (nQ (rI k) n) T b xs::O) G ⟨some h3,.call ⟨.builtin .copy,#[x,y],#[dT,sT]⟩,ty,pos,after,g⟩ (fun _=>Q (nQ (rI k) n) T b (pD xs ys)::O) (fun _=>tD (rI .i64) ((min ys.length n:Nat):Int)):=
 QS rfl hu hs V fun a w S hs0 ho hf=>by
  obtain⟨S1,Y,X⟩:=PK hsl (eD.mem ho _ hm).1 hs0
  refine⟨S1,Y,?_,fun cs zs h=>by rw [AZ h];exact(AZ h)▸Ke (fun h=>h) h⟩
  rw [show a.eval y=nP 1 l cap lo.toNat ys.length from hy S a hf]
  exact X
def RW{α:Type}(r:Rp α)(y:α)(b:Nat)(t:Ty):Ty where
 p:=fun S v=> ∀S1,SH.le S S1->(dk r y).p S1 (M b 0)->t.p S1 v
 mono:=fun h k S1 Y=>k S1 (SH.le_trans h Y)
def UB{y:α}{t:Ty}{S1:SH}{a:Act}(h:aJ N G x (RW r y b t))(hf:bS N S a G)(hle:SH.le S S1)(hk:(dk r y).p S1 (M b 0)):t.p S1 (a.eval x):=h S a hf S1 hle hk
def IF{γ:Type}{r:Rp γ}{z:γ}{args:α->List Ty}{res:β->Ty}{f:α->Option β}{fid:FuncId}{caps:List Operand}{cts:List Ty}(hc:ak E.P fid=true)(hcap: ∀(S S1:SH) (a:Act),bS E.N S a G->SH.le S S1->(dk r z).p S1 (M b 0)->xn S1 cts (caps.map a.eval))(hs: ∀x y,f x=some y->dR E.P fid (args x++cts) (res y)):cu E O G ⟨dst,.makeFunc (.func fid) #[] caps.toArray,ty,pos,after,g⟩ (RW r z b (lK E.P args res f)):=
 .of_pure fun a w S _ _ hf=>by
  refine⟨.func (.func fid) #[] (caps.map a.eval).toArray,by simp [execOp,Instr.makeFunc],fun S1 Y hk=>⟨fid,_,rfl,hc,fun x y h w' S' vs hle hsat hv=>?_⟩⟩
  have hcv:=(hcap S S1 a hf Y hk).mono hle
  simpa using hs x y h w' S' _ hsat (hv.append hcv)
def NC{y:α}{S1:SH}{a:Act}(h:aJ N G x (dk (rT (Z (M b 0))) ()))(hf:bS N S a G)(hle:SH.le S S1)(hk:(dk r y).p S1 (M b 0)):(dk (rPt r) y).p S1 (a.eval x):=by
 obtain⟨b',off,c,E',fr,Y,X,v,d,_,h4⟩:=(dk (rT (Z (M b 0))) ()).mono hle (h S a hf)
 have h4' :v=M b 0:=h4
 subst h4'
 exact⟨b',off,c,E',fr,Y,X,_,d,hk⟩
def Ig(ti:TI P T sz bytes agg z):(P.info? T).map (·.size)=some sz:=by
 obtain⟨i,_,hi,hs,_⟩:=ti.get
 simp [hi,hs]
def UF(ti:TI P T sz bytes agg z):((P.info? T).map (·.size)).isSome=true:=by rw [Ig ti];rfl
def Qn{α:Type}:Rp α where
 sz:=1
 agg:=false
 rc:=fun _ cs _=> ∃v,cs=[v]/\v.oneCell' =true
 mono:=fun _ h=>h
 len:=fun⟨v,h,_⟩=>by rw [h];rfl
 one:=fun⟨v,h,k⟩ c hc=>by rw [h]at hc;simp at hc;subst hc;exact k
 sc:=fun _=>rfl
def ac3{u:Value}{y:α}(h:aJ N G x (Z u))(ho:u.oneCell' =true):aJ N G x (tD Qn y):=fun S a hf=>by
 have Y:a.eval x=u:=h S a hf
 rw [Y]
 exact⟨[u],rfl,u,rfl,ho⟩
def Kz{c:Nat}:(av l c n).oneCell' =true:=by cases l<;>rfl
def NP{j:Int}{o:Oper}{post:OI->List OE}{t:OI->Ty}(h:dQ xs 0 j=some ys)(k:EffOK E (dr r U l cap ys::O) G o post t):EffOK E (dr r U l cap xs::O) G o post t:=fun a w S hs ho hf H=>by
 have Y:eD E.base E.B w S (dr r U l cap ys::O):=⟨⟨Pl h ho.1.1,ho.1.2⟩,ho.2.1,ho.2.2⟩
 refine ph (fun a' w' ⟨v,S',x,g1,g2,g3,g4,g5⟩=>⟨v,S',x,g1,g2.more fun b ⟨f,hf,H⟩=>?_,g3,g4,g5⟩) (k a w S hs Y hf H)
 rcases jl.1 hf with rfl|hf
 ·exact⟨_,nM ..,H⟩
 ·exact⟨f,pK _ hf,H⟩
def Jx(hm:ml mm r T l cap xs∈O)(hs:dQ xs lo hi=some ys)(h:(l=none->ys.length=0)/\ys.length<=maxLen->CG E bx c O G):CG E bx c O G:=fun a w S st=>by
 refine h ?_ a w S st
 obtain⟨cells,Y,_⟩:=(st.own.mem _ hm).1
 obtain⟨l',m,_,_,_,h8,rfl⟩:=fW hs
 have hlen:((xs.take m).drop l').length<=xs.length:=by simp;omega
 cases l with
 |none=>have:=Y.1;exact⟨fun _=>by omega,by omega⟩
 |some b=>obtain⟨cur,_,g2,g3,_⟩:=Y;exact⟨fun h=>(by cases h),by omega⟩
def Xb{b:Bool}:aJ N G (.const (.bool b)) (tD rB b):=hB
def ud(b:Bool){l:List Oper}(Y:b=true->RG E ops bx l O G)(X:b=false->RG E ops bx l O G):RG E ops bx l O G:=by
 cases b with
 |true=>exact Y rfl
 |false=>exact X rfl
def gG{h3:Option Tmp}{b:Bool}(hj:(ops[j]?).bind (·.dst)=some gs)(hgs:Nat.blt gs E.N.n=true)(H:cw G gs=some (tD rB b))(e:b=pol)(k:RG E ops bx (⟨h3,op,ty,pos,after,none⟩::rest) O G):
  RG E ops bx (⟨h3,op,ty,pos,after,some (j,pol)⟩::rest) O G:=fun a w S st=>by
 have hgs' :gs<a.tmps.size:=by rw [st.facts.size];simpa [uW] using hgs
 have hw:=tB (o:=⟨h3,op,ty,pos,after,some (j,pol)⟩) rfl hj hgs' (qx H S a st.facts)
 have Y:=k a w S st
 unfold wpListIn at Y ⊢
 rw [hw,e]
 rw [bh (show Region.wanted ⟨h3,op,ty,pos,after,none⟩ (yielded ops a.tmps)=true from rfl)]at Y
 rw [bh (show(true&&(pol==pol))=true from by simp)]
 exact Y
def qu{c:Operand}{b:Bool}{t:Ty}(hc:aJ E.N G c (tD rB b))(e:b=true)(V:aJ E.N G x t):cu E O G ⟨dst,.pick c x y,ty,pos,after,g⟩ t:=yP hc (fun _=>V) (fun h=>by rw [e]at h;cases h)
def pi{c:Operand}{b:Bool}{t:Ty}(hc:aJ E.N G c (tD rB b))(e:b=false)(hy:aJ E.N G y t):cu E O G ⟨dst,.pick c x y,ty,pos,after,g⟩ t:=yP hc (fun h=>by rw [e]at h;cases h) (fun _=>hy)
end

section
def DE{o:Nat}{yt e:TypeId}(D:E.P.underlying t=some (.pointer e))(V:aJ E.N G x (Z (M b o))):cu E O G ⟨dst,.binOp .eql t x (.const (.pointer none)) yt,ty,pos,after,g⟩ (tD rB false):=
 .of_pure fun a w S _ _ hf=>by
  have Y:a.eval x=M b o:=V S a hf
  have d:(Op.equal t (M b o) (.pointer none)).run E.P w= .ok false w:=AS fun h3=>by simp [Op.equalIn,jt D,M]
  have hcn:a.eval (.const (.pointer none))= .pointer none:=rfl
  refine⟨.bool false,?_,ju.2 rfl⟩
  unfold M at Y d
  simp [execOp,Y,hcn,eqGuard,binOp,d]
def Ej(n:FuncId)(fts:List Ty):Ty where
 p:=fun S v=> ∃fst:List Value,v= .func (.func n) fst.toArray #[]/\xn S fts fst
 mono:=fun h ⟨cap,e,k⟩=>⟨cap,e,xn.mono h k⟩
def rx{fid:FuncId}{fst:List Operand}{fts:List Ty}(hf:kQ E.N G fst fts):cu E O G ⟨dst,.makeFunc (.func fid) fst.toArray #[],ty,pos,after,g⟩ (Ej fid fts):=
 .of_pure fun a w S _ _ hF=>⟨.func (.func fid) (fst.map a.eval).toArray #[],by simp [execOp,Instr.makeFunc],_,rfl,hf.tys hF⟩
end
section
def dP{b:Bool}(hj:(ops[j]?).bind (·.dst)=some gs)(hgs:Nat.blt gs E.N.n=true)(H:cw G gs=some (tD rB b))(e:b= !pol)(hd:Nat.blt h3 E.N.n=true)(k:RG E ops bx rest O ((h3,o8 false (tD rB true))::G)):
  RG E ops bx (⟨some h3,op,ty,pos,after,some (j,pol)⟩::rest) O G:=fun a w S st=>by
 have hgs' :gs<a.tmps.size:=by rw [st.facts.size];simpa [uW] using hgs
 have hw:=tB (o:=⟨some h3,op,ty,pos,after,some (j,pol)⟩) rfl hj hgs' (qx H S a st.facts)
 refine wpListIn_step fun hg hK=>?_
 rw [hw,e,aQ (by cases pol<;>simp)]
 exact⟨fun _ _=>trivial,hK _ _ (k _ _ S (st.step (js _ _ _) st.sat hd rfl))⟩
def Pq{b:Bool}(hj:(ops[j]?).bind (·.dst)=some gs)(hgs:Nat.blt gs E.N.n=true)(H:cw G gs=some (o8 false (tD rB b)))(hd:Nat.blt h3 E.N.n=true)(k:RG E ops bx rest O ((h3,o8 false (tD rB true))::G)):
  RG E ops bx (⟨some h3,op,ty,pos,after,some (j,pol)⟩::rest) O G:=fun a w S st=>by
 have hgs' :gs<a.tmps.size:=by rw [st.facts.size];simpa [uW] using hgs
 have hw:=tB (o:=⟨some h3,op,ty,pos,after,some (j,pol)⟩) rfl hj hgs' (Cl H S a st.facts)
 refine wpListIn_step fun hg hK=>?_
 rw [hw,aQ (by simp)]
 exact⟨fun _ _=>trivial,hK _ _ (k _ _ S (st.step (js _ _ _) st.sat hd rfl))⟩
end
def qk{n:FuncId}{fts ts:List Ty}{fo:Operand}{xs:List Operand}(O1 Or:List OE){t:OI->Ty}{O2 post:OI->List OE}(hO:O=O1++Or)(hc:ak E.P n=true)(hs:bk E.P n (fts++ts) O1 t O2)(hf:aJ E.N G fo (Ej n fts))(V:kQ E.N G xs ts)(hpost: ∀i,O2 i++Or=post i):
  EffOK E O G ⟨some h3,.call ⟨.value fo,xs.toArray,ats⟩,ty,pos,after,g⟩ post t:=fun a w S hsat ho hF H=>by
 subst hO
 obtain rfl:(fun i=>O2 i++Or)=post:=funext hpost
 obtain⟨fst,e,hfst⟩:=hf S a hF
 have hr:(execOp a.eval ⟨some h3,.call ⟨.value fo,xs.toArray,ats⟩,ty,pos,after,g⟩).run E.P w= .ok (.enter n (fst.toArray++(xs.map a.eval).toArray)) w:=by
  simp [execOp,resolve,e,Deferred.ofValue,invoke,iK hc]
 refine⟨fun c h=>(by cases h),?_⟩
 rw [hr]
 have e2:fst.toArray++(xs.map a.eval).toArray=(fst++(xs.map a.eval)).toArray:=by simp
 rw [e2]
 exact(hs w S _ hsat (hfst.append (V.tys hF)) (qC ho).1.weak).mono fun en w' ⟨i,v,S',he,hv,Y,X,d,h4⟩=>⟨_,he,v,S',i,rfl,Y.more fun b ⟨f,hf,H⟩=>⟨f,D8 _ hf,H⟩,X,eD.turn ho H Y d h4,hv⟩
def KE{hi mx:Operand}{k' :IntKind}{j:Int}(D:E.P.underlying t=some (.slice T))(ti:TI E.P T sz bytes agg z)(hsz:r.sz=sz)(V:aJ E.N G x (tD (ga r) xs))(hhi:aJ E.N G hi (tD (rI k) j))(hmx:aJ E.N G mx (tD (rI k') j))(h:dQ xs 0 j=some ys):cu E O G ⟨dst,.slice t x none (some hi) (some mx),ty,pos,after,g⟩ (tD (ga r) ys):=
 .of_pure fun a w S _ _ hf=>by
  subst hsz
  obtain⟨ad,cap,Y,X,d,h4⟩:=j6.1 (V S a hf)
  have h6:=dI.1 (hhi S a hf)
  have h7' :=dI.1 (hmx S a hf)
  obtain⟨l,m,hl,rfl,h7,h8,rfl⟩:=fW h
  have hl0:l=0:=by omega
  subst hl0
  have hlen:((xs.take m).drop 0).length=m-0:=by simp;omega
  have hrun:(execOp a.eval ⟨dst,.slice t x none (some hi) (some mx),ty,pos,after,g⟩).run E.P w= .ok (.value (.slice (if m=0 then ad else ad.map (·.add (0*r.sz))) (m-0) (m-0))) w:=by
   simp [execOp,Instr.sliceAt,Y,h6,h7',Instr.slice,jt D,Instr.sliceBounds,jS (k:=k) (n:=(m:Int)) (y:=m) (by omega) (by omega),jS (k:=k') (n:=(m:Int)) (y:=cap) (by omega) (by omega),ti.sizeOf]
  refine⟨_,hrun,j6.2 ⟨_,m-0,by rw [hlen],by omega,by omega,?_⟩⟩
  by_cases hm:m=0
  ·subst hm;exact .inl (by simp)
  ·have:=wb h4 h7 h8 X
   rw [aQ (by omega)]at this
   rw [aQ hm]
   exact this
def TW(h:pD xs ys=zs):zs.length=xs.length:=by rw [<-h,s7]
def QR(hq:q.sz=1)(hu:E.P.underlying dT=some (.slice el))(hs:(E.P.info? el).map (·.size)=some 1)(V:aJ E.N G x (Z (av l cap xs.length)))(hy:aJ E.N G y (tD (ga q) ys))(hz:pD xs ys=zs):
  EffOK E (dr q U l cap xs::O) G ⟨some h3,.call ⟨.builtin .copy,#[x,y],#[dT,sT]⟩,ty,pos,after,g⟩ (fun _=>dr q U l cap zs::O) (fun _=>tD (rI .i64) ((min ys.length xs.length:Nat):Int)):=fun a w S hs0 ho hf H=>by
 subst hz
 have Y:a.eval x=av l cap xs.length:=V S a hf
 have hy1:=hy S a hf
 obtain⟨ad,cap',X,_,_,d⟩:=j6.1 hy1
 obtain⟨⟨cells,hraw,hrc,hS⟩,hbase⟩:=ho.1
 have hm:min ys.length xs.length<=ys.length:=Nat.min_le_left _ _
 cases l with
 |none=>
  have hx0:xs=[]:=sd hraw.1
  subst hx0
  have hrun:(Builtin.copy_ #[dT,sT] ty #[.slice none 0 0,a.eval y]).run E.P w= .ok (goInt 0) w:=by
   rw [X]
   cases hel:E.P.info? el with
   |none=>simp [hel]at hs
   |some i=>
    have hi:i.size=1:=by simpa [hel] using hs
    cases ad with
    |none=>simp [Builtin.copy_,jt hu,Builtin.lenOf,Builtin.firstCells,sizeOf,typeInfo,hel,hi,storeCells]
    |some p=>
     have hl:=run_loadCells_list (P:=E.P) w p [] (fun j v hv=>by simp at hv)
     simp only [vk]at hl
     simp [Builtin.copy_,jt hu,Builtin.lenOf,Builtin.firstCells,sizeOf,typeInfo,hel,hi,storeCells,hl]
  have hx' :(execOp a.eval ⟨some h3,.call ⟨.builtin .copy,#[x,y],#[dT,sT]⟩,ty,pos,after,g⟩).run E.P w= .ok (.value (goInt 0)) w:=by
   have h1' :a.eval x= .slice none 0 0:=Y
   simp [execOp,resolve,h1',invoke,builtin,hrun]
  refine⟨fun c h=>(by cases h),?_⟩
  rw [hx']
  refine⟨_,S,jQ,rfl,js _ _ _,hs0,?_,?_⟩
  ·have e:pD ([]:List α) ys=[]:=by unfold pD;simp
   rw [e];exact ho
  ·exact dI.2 (by simp [goInt])
 |some b=>
  obtain⟨cur,g1,g2,g3,g4,g5⟩:=hraw
  rw [hq,AE]at g4 g5
  have h1' :a.eval x= .slice (some ⟨b,0,none⟩) xs.length cap:=Y
  have hxl:xs.length<=cur.toList.length:=by simp [g4];exact g2
  obtain⟨cs,hcs,hrun,hlen⟩: ∃cs,rh q S cs (ys.take (min ys.length xs.length))/\(Builtin.copy_ #[dT,sT] ty #[.slice (some ⟨b,0,none⟩) xs.length cap,a.eval y]).run E.P w= .ok (goInt cs.length) (w.setRow b (cs++cur.toList.drop cs.length).toArray)/\cs.length=min ys.length xs.length:=by
   rw [X]
   rcases d with rfl|⟨b',off,c,T',fr,rfl,e2,e3⟩
   ·refine⟨[],by simp [rh],?_,by simp⟩
    cases hel:E.P.info? el with
    |none=>simp [hel]at hs
    |some i=>
     have hi:i.size=1:=by simpa [hel] using hs
     have hself:w.setRow b (([]:List Value)++cur.toList.drop ([]:List Value).length).toArray=w:=by simpa using setRow_self w b cur U (0,0) g1
     rw [hself]
     cases ad with
     |none=>simp [Builtin.copy_,jt hu,Builtin.lenOf,Builtin.firstCells,sizeOf,typeInfo,hel,hi,storeCells]
     |some p=>
      have hl:=run_loadCells_list (P:=E.P) w p [] (fun j v hv=>by simp at hv)
      simp only [vk]at hl
      simp [Builtin.copy_,jt hu,Builtin.lenOf,Builtin.firstCells,sizeOf,typeInfo,hel,hi,storeCells,hl]
   ·obtain⟨c',h8,h9⟩:=hs0.part e2 (kI e3)
    obtain⟨d1,d2⟩:=Dz hq e3 hm
    rw [Ax,hq,AE,xq hm]at d1
    have hl:((c.toList.drop off).take (min ys.length xs.length)).length=min ys.length xs.length:=by
     rw [kI d1,hq,AE,DZ,xq hm]
    refine⟨_,d1,?_,hl⟩
    have:=run_copy_row (P:=E.P) w dT sT ty el b 0 xs.length cap ⟨b',off,none⟩ ys.length cap' cur U ((c.toList.drop off).take (min ys.length xs.length)) hu hs g1 hl (fun j v hv=>?_) (by rw [hl];simp at hxl;omega) (yK d1)
    ·simpa using this
    ·have hj:j<min ys.length xs.length:=by rw [<-hl];exact(sy.1 hv).1
     have hcell:w.cell? ⟨b',off+j,none⟩=c'[off+j]? :=wN h8 _
     rw [jq]
     show w.cell? ⟨b',off+j,none⟩=_
     rw [hcell]
     have h10:((c'.toList.drop off).take (ys.length*q.sz))[j]? =((c.toList.drop off).take (ys.length*q.sz))[j]? :=by rw [h9]
     rw [y9 (by rw [hq];omega),y9 (by rw [hq];omega),vX,vX]at h10
     rw [y9 hj,vX]at hv
     rw [<-hv,<-Array.getElem?_toList,h10]
  have hx' :(execOp a.eval ⟨some h3,.call ⟨.builtin .copy,#[x,y],#[dT,sT]⟩,ty,pos,after,g⟩).run E.P w= .ok (.value (goInt cs.length)) (w.setRow b (cs++cur.toList.drop cs.length).toArray):=by
   simp [execOp,resolve,h1',invoke,builtin,hrun]
  refine⟨fun c h=>(by cases h),?_⟩
  rw [hx']
  have hle:min ys.length xs.length<=xs.length:=Nat.min_le_right _ _
  have hrc' :rh q S (cur.toList.take xs.length) xs:=by rw [g5];exact hrc
  obtain⟨_,d4⟩:=Dz hq hrc' hle
  have hno:S b=none:=hS b rfl
  have hnew:As false q U (some b) cap (pD xs ys) (w.setRow b (cs++cur.toList.drop cs.length).toArray) S:=by
   refine⟨(cs++cur.toList.drop cs.length).take xs.length,⟨_,setRow_heap w b cur _ U _ g1,by rw [s7];exact g2,g3,?_,by rw [s7,hq,AE]⟩,?_,fun b' hb' =>by cases hb';exact hno⟩
   ·simp [hlen,hq];simp at hxl;omega
   ·unfold pD
    have e1:ys.take xs.length=ys.take (min ys.length xs.length):=by rw [List.take_eq_take_iff];omega
    have e2:(cs++cur.toList.drop cs.length).take xs.length=cs++(cur.toList.take xs.length).drop cs.length:=by
     rw [List.take_append,ul (by omega),zf]
    rw [e1,e2,hlen]
    exact rs hcs d4
  obtain⟨k1,k2,k3⟩:=ny (O:=O) hs0 (w' :=w.setRow b (cs++cur.toList.drop cs.length).toArray) (dr q U (some b) cap xs) (dr q U (some b) cap (pD xs ys)) ho (fun k=>by simp [dr,ml];exact eq_comm) (fun k=>by simp [dr,ml];exact eq_comm) ⟨rfl,rfl,rfl,by simp [World.setRow],eo _⟩ (fun k hk=>setRow_other w b k _ hk) hnew hno
  refine⟨_,S,jQ,rfl,k1.more fun k hk=>⟨_,nM ..,by subst hk;rfl⟩,k2,k3,?_⟩
  rw [hlen]
  exact dI.2 rfl
def Uj{e:Exit}(h:AT E bx e (Q (ga r) T b xs::O) G):
  AT E bx e (Q rV T b (av l cap xs.length)::tip r U l cap xs::O) G:=fun a w S st=>h a w S (st.own_map fun⟨⟨⟨g1,c,g2,g3⟩,g4⟩,g5,g6⟩=>by
 obtain⟨a',cap',e,Y,X,d⟩:=j6.1 (nk g6.1.1)
 exact⟨⟨⟨g1,c,g2,a',cap',by rw [g3.1,e],Y,X,d⟩,g4⟩,fun f hf=>g5 f (.tail _ hf),g6.2.2⟩)

def xy{α:Type}(n c:Int)(z:α):Option (List α):=if 0<=n/\n<=c/\c<=68719476736 then some (List.replicate n.toNat z)else none
def JK{n c:Int}{z:α}(h:xy n c z=some zs): ∃m k:Nat,n=m/\c=k/\m<=k/\k<=68719476736/\zs=List.replicate m z:=by
 unfold xy at h
 split at h
 ·rename_i hc;exact⟨n.toNat,c.toNat,by omega,by omega,by omega,by omega,by simpa using h.symm⟩
 ·cases h
def QC(z:List Value)(m k sz:Nat)(h:z.length=sz)(hk:m<=k):(madeCells z.toArray (k*sz)).toList.take (m*sz)=(List.replicate m z).flatten:=by
 rw [vE z k sz h]
 obtain⟨j,rfl⟩: ∃j,k=m+j:=⟨k-m,by omega⟩
 rw [show List.replicate (m+j) z=List.replicate m z++List.replicate j z from(List.replicate_append_replicate ..).symm,List.flatten_append,AD (by rw [flat_len h];omega)]
 exact ul (by rw [flat_len h];omega)
section
def Cw{x:α}{n c:Int}{y' :Operand}{k' :IntKind}(ti:TI E.P T sz bytes agg z)(hsz:r.sz=sz)(hz:Nat.beq z.length sz=true)(h128:Nat.ble bytes 2048=true)(D:E.P.underlying t=some (.slice T))(V: ∀S,r.rc S z x)(hy:aJ E.N G y (tD (rI k) n))(hy' :aJ E.N G y' (tD (rI k') c))(h:xy n c x=some zs):
  EffOK E O G ⟨some h3,.makeSlice t y y',ty,pos,after,g⟩ (fun i=>dr r T (i.h 0).1 (i.h 0).2 zs::O) (fun i=>Z (av (i.h 0).1 (i.h 0).2 zs.length)):=fun a w S hs ho hf H=>by
 subst hsz
 obtain⟨i,zv,hi,Y,X,d,h4⟩:=ti.get
 obtain⟨m,c,rfl,rfl,hmc,hm,rfl⟩:=JK h
 have hyv:=dI.1 (hy S a hf)
 have hyv' :=dI.1 (hy' S a hf)
 have hz2:z.length=r.sz:=pG hz
 have h128' :=sb h128
 have hbytes:(i.bytes:Int)*(c:Int)<=281474976710656:=by
  have:i.bytes*c<=2048*68719476736:=Nat.mul_le_mul (by omega) hm
  have h5:((i.bytes*c:Nat):Int)<=281474976710656:=by omega
  rwa [Int.natCast_mul]at h5
 have hr:=run_make (P:=E.P) w t T i zv D hi d k k' (m:Int) (c:Int) (by omega) (by omega) hbytes (by omega)
 rw [uY,uY,Y,h4]at hr
 obtain⟨he,hs',hno⟩:=jP (w:=w) (.cells (madeCells z.toArray (c*r.sz)) T (0,0)) hs
 have hrun:(execOp a.eval ⟨some h3,.makeSlice t y y',ty,pos,after,g⟩).run E.P w= .ok (.value (.slice (some ⟨w.heap.size,0,none⟩) m c)) (w.alloc (.cells (madeCells z.toArray (c*r.sz)) T (0,0))):=by
  simp [execOp,hyv,hyv',hr]
 refine⟨fun c h=>(by cases h),?_⟩
 rw [hrun]
 have hfl:=flat_len hz2 m
 refine⟨_,S,oi (some w.heap.size) c,rfl,he.more fun _ H=>H.elim,hs',rY ho he (e:=dr r T (some w.heap.size) c (List.replicate m x)) ⟨(List.replicate m z).flatten,⟨_,xx w _,by simpa using hmc,by simp only [maxLen];omega,by rw [size_madeCells],?_⟩,vw V S m,fun b H=>by rw [<-qE H];exact hno⟩ (fun b H=>AF (qE H)) H,?_⟩
 ·rw [Ea]
  exact QC z m c r.sz hz2 hmc
 ·show _=av _ _ _
  rw [Ea];rfl
end

structure acR{κ:Type} [DecidableEq κ](P:Program)(kt:TypeId)(kv:κ->Value):Prop where
 chk: ∀e w k,(Instr.checkKey e 10000 kt (kv k)).run P w= .ok () w
 eql: ∀w a b,(Op.equal kt (kv a) (kv b)).run P w= .ok (decide (a=b)) w
 wide:(match P.underlying kt with|some (.array _ _)|some (.struct _)=>true|_=>false)=true
 same: ∀k,Instr.sameBits 10000 (kv k) (kv k)=true
 inj: ∀a b,kv a=kv b->a=b
def Vl(p:Int×Int):Value:= .agg #[.int .i64 p.1,.int .i64 p.2]
def k2(l:List Int):Int×Int:=(l.getD 0 0,l.getD 1 0)
variable{kt:TypeId}
def E2{kt el:Nat}(h:P.underlying kt=some (.array 2 el))(he:P.underlying el=some (.int .i64))(ti:TI P el sz bytes agg z)(hsz:Nat.beq sz 1=true)(hq:LU P kt (nQ (rI .i64) 2)):acR P kt Vl where
 chk:=fun e w k=>by
  obtain⟨i,zv,hi,hs,_⟩:=ti.get
  have Y:sz=1:=pG hsz
  have ha:(isAgg el).run P w= .ok false w:=by
   simp [isAgg,jt he,Result.andThen]
  have d: ∀(j:Nat) (x:Int) (cs:Array Value),cs[j]? =some (.int .i64 x)->(part el cs (j*i.size)).run P w= .ok (.int .i64 x) w:=fun j x cs hj=>by
   simp [part,ha,Result.andThen,hs,Y,hj]
  have h4: ∀x:Int,(Instr.checkKey e 9999 el (.int .i64 x)).run P w= .ok () w:=fun x=>by
   show(Instr.checkKey e (9998+1) el (.int .i64 x)).run P w= .ok () w
   unfold Instr.checkKey
   simp only [uh,jt he,vl]
   rfl
  have e1:=d 0 k.1 #[.int .i64 k.1,.int .i64 k.2] rfl
  have e2:=d 1 k.2 #[.int .i64 k.1,.int .i64 k.2] rfl
  show(Instr.checkKey e (9999+1) kt (Vl k)).run P w= .ok () w
  unfold Instr.checkKey
  simp only [Vl,uh,jt h,vl,Std.Legacy.Range.forIn_eq_forIn_range',Std.Legacy.Range.size,Nat.sub_zero,Nat.add_sub_cancel,Nat.div_one,List.range'_succ,List.range'_zero,List.forIn_cons,List.forIn_nil,sizeOf,typeInfo,hi,Sem.run_pure,Nat.zero_mul,vj,Nat.one_mul]
  simp only [Nat.zero_mul,Nat.one_mul]at e1 e2
  simp [e1,e2,h4,Result.andThen,hi]
 eql:=fun w a b=>by
  have:=hq.run (fun _=>none) [.int .i64 a.1,.int .i64 a.2] [.int .i64 b.1,.int .i64 b.2] [a.1,a.2] [b.1,b.2] 9980 w ⟨rfl,[_],[_],rfl,rfl,[_],[],rfl,rfl,rfl⟩ ⟨rfl,[_],[_],rfl,rfl,[_],[],rfl,rfl,rfl⟩
  have e1:decide (([a.1,a.2]:List Int)=[b.1,b.2])=decide (a=b):=by
   obtain⟨a1,a2⟩:=a;obtain⟨b1,b2⟩:=b;simp
  rw [e1]at this
  show(Op.equalIn (9980+20) kt (Vl a) (Vl b)).run P w=_
  exact this
 wide:=by rw [h]
 same:=fun k=>by
  show Instr.sameBits (9999+1) (Vl k) (Vl k)=true
  unfold Instr.sameBits Vl
  simp only [List.zip_cons_cons,List.zip_nil_left,AI,List.all_nil]
  unfold Instr.sameBits
  simp
 inj:=fun a b h=>by
  obtain⟨a1,a2⟩:=a;obtain⟨b1,b2⟩:=b
  simpa [Vl] using h
section
variable [DecidableEq κ]{k:κ}
end
section
variable [DecidableEq κ]{k:κ}{dst:Option Nat}
end

def SY(p:Int×Int×Int):Value:= .agg #[.int .i64 p.1,.int .i64 p.2.1,.int .i64 p.2.2]
def aaP{kt el:Nat}{l:Array Field} [DecidableEq α]{mk:Int×Int×Int->α}(h:P.underlying kt=some (.struct l))(hl:l.toList.map (fun f=>(f.type,f.offset))=[(el,0),(el,1),(el,2)])(he:P.underlying el=some (.int .i64))(ti:TI P el sz bytes agg z)(hsz:Nat.beq sz 1=true)(hag:r.agg=true)(hr: ∀p:Int×Int×Int,r.rc (fun _=>none) [.int .i64 p.1,.int .i64 p.2.1,.int .i64 p.2.2] (mk p))(hinj: ∀p q,mk p=mk q->p=q)(hq:LU P kt r):acR P kt SY where
 chk:=fun e w k=>by
  obtain⟨i,zv,hi,hs,_⟩:=ti.get
  have Y:sz=1:=pG hsz
  have ha:(isAgg el).run P w= .ok false w:=by
   simp [isAgg,jt he,Result.andThen]
  have d: ∀(j:Nat) (x:Int) (cs:Array Value),cs[j]? =some (.int .i64 x)->(part el cs j).run P w= .ok (.int .i64 x) w:=fun j x cs hj=>by
   simp [part,ha,Result.andThen,hj]
  have h4: ∀x:Int,(Instr.checkKey e 9999 el (.int .i64 x)).run P w= .ok () w:=fun x=>by
   show(Instr.checkKey e (9998+1) el (.int .i64 x)).run P w= .ok () w
   unfold Instr.checkKey
   simp only [uh,jt he,vl]
   rfl
  have e1:=d 0 k.1 #[.int .i64 k.1,.int .i64 k.2.1,.int .i64 k.2.2] rfl
  have e2:=d 1 k.2.1 #[.int .i64 k.1,.int .i64 k.2.1,.int .i64 k.2.2] rfl
  have e3:=d 2 k.2.2 #[.int .i64 k.1,.int .i64 k.2.1,.int .i64 k.2.2] rfl
  obtain⟨l0,rfl⟩: ∃l0:List Field,l=l0.toArray:=⟨l.toList,by simp⟩
  have hlen:l0.length=3:=by simpa using congrArg List.length hl
  obtain⟨f0,f1,f2,rfl⟩: ∃f0 f1 f2,l0=[f0,f1,f2]:=by
   match l0,hlen with
   |[a,b,c],_=>exact⟨a,b,c,rfl⟩
  simp only [D3,List.map_nil,List.cons.injEq,Prod.mk.injEq,and_true]at hl
  obtain⟨⟨a0,b0⟩,⟨a1,b1⟩,⟨a2,b2⟩⟩:=hl
  show(Instr.checkKey e (9999+1) kt (SY k)).run P w= .ok () w
  unfold Instr.checkKey
  simp only [SY,uh,jt h,vl]
  by_cases n0:f0.name= "_" <;>by_cases n1:f1.name= "_" <;>by_cases n2:f2.name= "_" <;>simp [n0,n1,n2,a0,a1,a2,b0,b1,b2,e1,e2,e3,h4,Result.andThen]
 eql:=fun w a b=>by
  have:=hq.run (fun _=>none) _ _ _ _ 9980 w (hr a) (hr b)
  have e1:decide (mk a=mk b)=decide (a=b):=BZ.2 ⟨fun e=>hinj a b e,fun e=>by rw [e]⟩
  rw [e1]at this
  have hv: ∀p:Int×Int×Int,r.val [.int .i64 p.1,.int .i64 p.2.1,.int .i64 p.2.2]=SY p:=fun p=>by simp [Rp.val,hag,SY]
  rw [hv,hv]at this
  show(Op.equalIn (9980+20) kt (SY a) (SY b)).run P w=_
  exact this
 wide:=by rw [h]
 same:=fun k=>by
  show Instr.sameBits (9999+1) (SY k) (SY k)=true
  unfold Instr.sameBits SY
  simp only [List.zip_cons_cons,List.zip_nil_left,AI,List.all_nil]
  unfold Instr.sameBits
  simp
 inj:=fun a b h=>by
  obtain⟨a1,a2,a3⟩:=a;obtain⟨b1,b2,b3⟩:=b
  simpa [SY] using h
section
variable [DecidableEq κ]{k:κ}{dst:Option Nat}
end
variable{os:Array Obj}
section
variable [DecidableEq κ]{hx:MV β}{os:List (Option Nat×Nat)}{h:Option κ}{dst:Option Nat}
end
section
variable{e:Exit}
end

section
variable [DecidableEq κ]
end
section
variable [DecidableEq κ]{k:κ}{u:Operand}{dst:Option Nat}
end
open Go.Sort Go.Shelf

def Bn{k:Nat}(h:k<w.heap.size):(grow w os).heap[k]? =w.heap[k]? :=by
 unfold grow;exact Array.getElem?_append_left h
variable{enc:α->Value}
def KW [Inhabited α]{h3:Array α}{k:Nat}(h:k≠b):(putRow enc w b off h3).heap[k]? =w.heap[k]? :=by
 unfold putRow mapBlock
 rw [Array.getElem?_modify,aQ (Ne.symm h)]
def Bm [Inhabited α]{m:Nat}{h3:Array α}{k:Nat}(hk:k<w.heap.size)(h:k≠b):(sortWorld enc w b off m h3 os).heap[k]? =w.heap[k]? :=by
 unfold sortWorld
 rw [Bn (by rw [size_putRow];exact hk),KW h];rfl
def IQ [Inhabited α]{m:Nat}{h3:Array α}{c:Array Value}{fr:Nat×Nat}(h:w.heap[b]? =some (.cells c T fr)):
  (sortWorld enc w b off m h3 os).heap[b]? =some (.cells (putCells enc off h3 c) T fr):=by
 have hlt:=(HS.1 h).1
 unfold sortWorld
 rw [Bn (by rw [size_putRow];exact hlt)]
 unfold putRow mapBlock
 rw [Array.getElem?_modify,bh rfl]
 show Option.map _ (w.heap[b]?)=_
 rw [h];rfl
def F4 [Inhabited α]{h3:Array α}{c:Array Value}(h:h3.size<=c.size):(putCells enc 0 h3 c).toList.take h3.size=h3.toList.map enc:=by
 apply List.ext_getElem?
 intro k
 by_cases hk:k<h3.size
 ·rw [y9 hk]
  have hc:k<c.size:=by omega
  simp [putCells,hc,hk]
 ·rw [D9 (by simp;omega),D9 (by simp;omega)]
section
def LC{m:Nat}(hl:m=n)(ae:Nat)(hs:cw G ae=some (Z (av l cap n)))(k:RG E ops bx rest O ((ae,Z (av l cap m))::G)):RG E ops bx rest O G:=by
 subst hl
 exact fun a w S st=>k a w S ⟨st.ext,st.sat,st.own,⟨st.facts.size,st.facts.defers,fun j t h=>by
  unfold cw at h
  by_cases H:Nat.beq ae j=true
  ·rw [H]at h
   have:=pG H
   subst this
   have e:Z (av l cap m)=t:=by simpa using h
   rw [<-e];exact st.facts.at_ ae _ hs
  ·rw [Ay]at H
   rw [H]at h
   exact st.facts.at_ j t h⟩⟩
end

def ZZ{α:Type}(cmp:α×α->Option Int)(x y:α):Bool:=
 match cmp (x,y)with
 |some c=>decide (c<0)
 |none=>false
def aaQ{α:Type}(lt:α->α->Bool)(x:α):List α->List α
 |[]=>[x]
 |y::ys=>if lt y x then y::aaQ lt x ys else x::y::ys
def WY{α:Type}(lt:α->α->Bool):List α->List α
 |[]=>[]
 |x::xs=>aaQ lt x (WY lt xs)
structure Good{α:Type}(cmp:α×α->Option Int)(xs:List α):Prop where
 len:xs.length<=1099511627776
 tot: ∀x∈xs,∀y∈xs,(cmp (x,y)).isSome=true
 irr: ∀x∈xs,ZZ cmp x x=false
 tr: ∀x∈xs,∀y∈xs,∀z∈xs,ZZ cmp x y=true->ZZ cmp y z=true->ZZ cmp x z=true
 anti: ∀x∈xs,∀y∈xs,ZZ cmp x y=false->ZZ cmp y x=false->x=y
def sortI(xs:List Int):List Int:=xs.mergeSort fun x y=>decide (x<=y)
def B7(xs:List Int):(sortI xs).length=xs.length:=by unfold sortI;simp
def Em(xs:List Int):Option (List Int):=if xs.length<=68719476736 then some (sortI xs)else none
def J1{xs ys:List Int}(h:Em xs=some ys):xs.length<=68719476736/\ys=sortI xs:=by
 unfold Em at h
 split at h
 ·exact⟨by assumption,by simpa using h.symm⟩
 ·cases h


def Oi{k:IntKind}{S:SH}: ∀{xs:List Int} {cs:List Value},rh (rI k) S cs xs->cs=xs.map (Value.int k)
 |[],cs,h=>by rw [show cs=[]from h];rfl
 |x::xs,cs,⟨a,b,e,Y,X⟩=>by
  rw [e,show a=[.int k x]from Y,Oi X]
  rfl
def OO{k:IntKind}{S:SH}: ∀xs:List Int,rh (rI k) S (xs.map (Value.int k)) xs
 |[]=>rfl
 |x::xs=>⟨[.int k x],_,rfl,rfl,OO xs⟩
def PV{ρ:Ren}(L:Lays.n189 P ρ){xs:List Int}(hlen0:xs.length<=68719476736)(hs:mA w S)(h:(dr (rI .i64) T l cap xs).p w S):
  Calls P (ρ.f 189) #[av l cap xs.length] w fun e w' =>e= .returned (.tuple #[])/\kw (fun k=>l=some k) w S w' S/\mA w' S/\(dr (rI .i64) T l cap (sortI xs)).p w' S:=by
 cases l with
 |none=>
  have V:xs=[]:=sd (by obtain⟨_,h4,_⟩:=h;exact h4.1)
  subst V
  exact(Any.slices_Sort_int_none (P:=P) (ρ:=ρ) L none 0 w).mono fun _ _ ⟨Y,X⟩=>by subst X;exact⟨Y,js _ _ _,hs,by simpa [sortI] using h⟩
 |some b=>
  obtain⟨cells0,⟨cur,H,hle,hmax,hcs,hct⟩,hrc,hno0⟩:=h
  have hno:S b=none:=hno0 b rfl
  subst hct
  have Y:(rI .i64).sz=1:=rfl
  rw [Y,AE]at hcs hrc
  have hcells:=Oi hrc
  have hH:Holds (Value.int .i64) w b 0 xs.toArray:=by
   intro j hj
   have hj' :j<xs.length:=by simpa using hj
   have hc:cur[j]? =some (Value.int .i64 xs.toArray[j]!):=by
    have:(cur.toList.take xs.length)[j]? =some (Value.int .i64 xs.toArray[j]!):=by
     rw [hcells,JB,getElem!_pos xs.toArray j hj]
     simp [hj']
    rw [y9 (by omega)]at this
    simpa using this
   refine⟨by simp [World.cell?,H,hc],?_⟩
   simp [World.frozen?,H]
  have hblk:=(HS.1 H).1
  have hcall:=calls_of_every_depth fun ht=>AnyS.slices_Sort_int_alone (P:=P) (ρ:=ρ) L ht b 0 cap xs w hH hblk (by omega)
  refine hcall.mono fun e w' ⟨he,n,os,hw⟩=>?_
  have hlen:=B7 xs
  have hw2:w' =sortWorld (Value.int .i64) w b 0 n (sortI xs).toArray os:=hw
  subst hw2
  refine⟨he,⟨rfl,rfl,rfl,Nat.le_add_right _ _,?_,fun k hk hkb=>Bm hk (fun e=>hkb (by rw [e])),SH.le_refl _,fun _ _ _=>rfl⟩,hs.same fun k o hk=>?_,⟨_,⟨_,IQ H,by omega,hmax,?_,rfl⟩,?_,hno0⟩⟩
  ·unfold sortWorld;rw [size_grow,size_putRow];exact Nat.le_add_right _ _
  ·have hkb:k≠b:=fun e=>by subst e;rw [hno]at hk;cases hk
   exact Bm (hs.lt hk) hkb
  ·simp [putCells,Y,hcs]
  ·have e1:(sortI xs).length*(rI .i64).sz=(sortI xs).toArray.size:=by rw [Y];simp
   rw [e1,F4 (by simp;omega)]
   exact OO (sortI xs)
section
def Uc{ρ:Ren}(L:Lays.n189 E.P ρ){f:FuncId}(hf:ρ.f 189=f)(hc:ak E.P f=true){xs ys:List Int}(hy:Em xs=some ys)(V:aJ E.N G x (Z (av l cap n)))(hn:n=xs.length)(hd:Nat.blt h3 E.N.n=true)(k:ys.length=n->RG E ops bx rest (dr (rI .i64) T l cap ys::O) ((h3,Ek)::G)):RG E ops bx (⟨some h3,.call ⟨.value (.func f),#[x],ats⟩,ty,pos,after,none⟩::rest) (dr (rI .i64) T l cap xs::O) G:= .of rfl fun a w S st=>by
 obtain⟨hl0,rfl⟩:=J1 hy
 subst hf
 subst hn
 have Y:a.eval x=av l cap xs.length:=V S a st.facts
 have hr:(execOp a.eval ⟨some h3,.call ⟨.value (.func (ρ.f 189)),#[x],ats⟩,ty,pos,after,none⟩).run E.P w= .ok (.enter (ρ.f 189) #[av l cap xs.length]) w:=by
  have e0:a.eval (.func (ρ.f 189))= .func (.func (ρ.f 189)) #[] #[]:=rfl
  simp [execOp,resolve,e0,Y,Deferred.ofValue,invoke,iK hc]
 refine⟨fun c h=>(by cases h),?_⟩
 rw [hr]
 refine(PV L hl0 st.sat st.own.1.1).mono fun e w' ⟨he,hext,hsat,hp⟩=>⟨_,he,?_⟩
 have hfp: ∀g∈O,∀b,g.fp b-> ¬(l=some b):=fun g K b H hl=>st.own.2.1 g K b hl H
 refine k (B7 xs) _ _ S ⟨st.ext.step hext (fun c hc=>st.own.1.2 c hc),hsat,⟨⟨hp,st.own.1.2⟩,st.own.2.1,st.own.2.2.ext hext hfp⟩,?_⟩;exact(st.facts.mono hext.keep).put hd trivial
end
end Go.Proofs.YtdohlidddcgfjaaGreat

