/- bR of this claim: W58, W66, W63, W59, W61, W62, W60, W44, W55, W29. -/
import Derived.Test.YtdohlidddcgfjaaGreatFbV3
import Derived.Test.YtdohlidddcgfjaaGreatFbV2
import Derived.WideKeyRuns
import Derived.Test.YtdohlidddcgfjaaGreatFbV1
import Derived.WideKeyEntry
import Derived.Shelf.GgSortFunc.Insertion
import Derived.Shelf.Slices.In.SortNone
set_option linter.all false
namespace Go.Proofs.YtdohlidddcgfjaaGreat
open Go

def VU{α:Type}(r:Rp α):Rp α where
 sz:=1
 agg:=false
 rc:=fun S cs x=> ∃v,cs=[v]/\(cH r x).p S v
 mono:=fun h ⟨v,e,k⟩=>⟨v,e,(cH r _).mono h k⟩
 len:=fun⟨_,e,_⟩=>by rw [e];rfl
 one:=fun⟨v,e,b,off,c,U,fr,h,_⟩ c' hc=>by rw [e]at hc;simp at hc;subst hc;rw [h];rfl
 sc:=fun _=>rfl
variable{S:SH}{α:Type}{r:Rp α}{v:Operand}{w:World}{x:Operand}
def Oi{x:α}{v:Value}:(tD (VU r) x).p S v↔(cH r x).p S v:=by
 constructor
 ·rintro⟨cs,rfl,w,rfl,h⟩;exact h
 ·intro h;exact⟨[v],rfl,v,rfl,h⟩
variable{T:TypeId}{b:Nat}{β:Type}{q:Rp α}{y:Operand}
def TD{rd:Rp β}{x:α}{y:β}(h:(Z r T b x).p w S)(hs:kV w S)(cv: ∀cs,r.rc S cs x->rd.rc S cs y): ∃S1,SH.le S S1/\kV w S1/\(cH rd y).p S1 (M b 0):=by
 obtain⟨hn,c,H,Q⟩:=h
 have hle:SH.le S (S.set b (.cells c T (0,0))):=s6 fun q hq=>(by rw [hn]at hq;cases hq)
 have hsat:kV w (S.set b (.cells c T (0,0))):=hs.set H (qY _) fun q hq=>by rw [hn]at hq;cases hq
 have h4:=cv _ Q
 have hl:c.toList.length=rd.sz:=rd.len h4
 refine⟨_,hle,hsat,b,0,c,T,(0,0),rfl,lA _ _ _,?_⟩
 rw [Ar,sb (by omega)]
 exact rd.mono hle h4
variable{E:En}{G:kN}{N:Fr}{O:List OE}{after:Array Edge}{ats:Array TypeId}{dst:Option Nat}{el:TypeId}{g:Option (Nat×Bool)}{i:Operand}{κ:Type}{k:κ}{m:List (κ×β)}{n off:Nat}{pos:String}{t ty:TypeId}{xs ys:List α}{γ:β->Ty}
section
variable{dst:Option Tmp}
def ME{f:FuncId}{xs:List Operand}{ts:List Ty}{t:Ty}{rd:Rp β}{x:α}{y:β}(hm:Z r T b x∈O)(hc:ak E.P f=true)(hs:dy E.P f ts t)(cv: ∀w S cs,dL E.base E.B w S O->r.rc S cs x->rd.rc S cs y)(V: ∀(S S1:SH) (a:Act),bR E.N S a G->SH.le S S1->(cH rd y).p S1 (M b 0)->uw S1 ts (xs.map a.eval))(htf: ∀(S S' :SH) (v:Value),t.p S v->t.p S' v):
  b9 E O G ⟨dst,.call ⟨.value (.func f),xs.toArray,ats⟩,ty,pos,after,g⟩ t:=fun a w S hS hO hF=>by
 have hr:(execOp a.eval ⟨dst,.call ⟨.value (.func f),xs.toArray,ats⟩,ty,pos,after,g⟩).run E.P w= .ok (.enter f (xs.map a.eval).toArray) w:=by
  simp [execOp,resolve,Act.eval,Deferred.ofValue,invoke,gA hc]
 refine⟨fun c h=>(by cases h),?_⟩
 rw [hr]
 obtain⟨S1,k1,k2,k3⟩:=TD (dL.mem hO _ hm).1 hS (fun cs h=>cv w S cs hO h)
 exact(hs w S1 _ k2 (V S S1 a hF k1 k3)).mono fun e w' ⟨v,S',he,Y,H,Q⟩=>⟨v,he,v,S,rfl,
  ⟨Y.os,Y.tape,Y.output,Y.drawn,Y.size,Y.heap,SH.le_refl _,fun _ _ _=>rfl⟩,hS.same fun b o k=>Y.heap b (hS.lt k) (fun W=>W),htf S' S v Q⟩
def nN(t:Nat->Ty):Ty where
 p:=fun S v=> ∀b,(t b).p S v
 mono:=fun h k b=>(t b).mono h (k b)
def Bs{o:Operand}{t:Nat->Ty}(h: ∀b,aI N G o (t b)):aI N G o (nN t):=fun S a hf b=>h b S a hf
def TK{o:Operand}{t:Nat->Ty}(b:Nat)(h:aI N G o (nN t)):aI N G o (t b):=fun S a hf=>h S a hf b

def qS{γ:Type}{r' :Rp γ}{q:Rp β}{hs hs' :HL}{x:α}{x' :γ}{y:β}(h:s7 r r' off q x y x')(hk:SR hs off q.sz none hs')(hoff:Nat.ble (off+q.sz) r.sz=true):s7 (rH r hs) (rH r' hs') off q x y x' :=fun S cs ds Y H=>by
 refine⟨h S cs ds Y.1 H,fun p hp=>?_⟩
 rcases hk.all p hp with⟨e,_⟩|⟨g1,g2⟩
 ·cases e
 ·have hl:=r.len Y.1
  rw [rX (q.len H) (by have:=pN hoff;omega) g2]
  exact Y.2 _ (qF g1)
def NZ{γ:Type}{r' :Rp γ}{x:α}{x' :γ}{hs:HL}{cs:List Value}(h:(rH r hs).rc S cs x)(k:r.rc S cs x->r'.rc S cs x'):(rH r' hs).rc S cs x' :=⟨k h.1,h.2⟩

def Ae(hq:q.sz=1){cs:List Value}{m:Nat}(h:o4 q S cs xs)(hm:m<=xs.length):o4 q S (cs.take m) (xs.take m)/\o4 q S (cs.drop m) (xs.drop m):=by
 have:=oc (xs:=xs.take m) (ys:=xs.drop m) (by rw [qL];exact h)
 rwa [As,uz hm,hq,xw]at this
def ni{α:Type}(xs ys:List α):List α:=ys.take xs.length++xs.drop (min ys.length xs.length)
def qu:(ni xs ys).length=xs.length:=by
 unfold ni
 simp
 omega
def Ga{p:Operand}(hu:E.P.underlying T=some (.array n el))(hs:((E.P.info? el).map (·.size)).isSome=true)(hp:aI E.N G p (K (M b 0))):
  b9 E O G ⟨dst,.slice T p none none none,ty,pos,after,g⟩ (K (.slice (some ⟨b,0,none⟩) n n)):= .of_pure fun a w S _ _ hf=>by
 have Y:a.eval p=M b 0:=hp S a hf
 cases hq:E.P.info? el with
 |none=>simp [hq]at hs
 |some i=>exact⟨_,by simp [execOp,Y,M,Instr.sliceAt,iv hu,Instr.sureAddr,Instr.sliceBounds,sizeOf,typeInfo,hq,Result.andThen];intro _;rfl,rfl⟩
end
variable{P:Program}{h3:Exit->Act->World->Prop}{U:TypeId}{agg:Bool}{bytes cap aN:Nat}{dT:TypeId}{gs:Nat}{hi:Int}{j:Nat}{l:Option Nat}{lo:Int}{mm:Bool}{op:Op}{ops:Array Oper}{pol:Bool}{rest:List Oper}{sT:TypeId}{sz:Nat}{z:List Value}{zs:List α}
section
variable{c:Code}{dst:Option Tmp}
def Lo(hq:q.sz=1)(hu:E.P.underlying dT=some (.slice el))(hs:(E.P.info? el).map (·.size)=some 1)(V:aI E.N G x (K (.slice (some ⟨b,0,none⟩) n n)))(hy: ∀a w S,kV w S->dL E.base E.B w S (Z (mg q n) T b xs::O)->bR E.N S a G-> ∃S1,kV w S1/\(tD (gr q) ys).p S1 (a.eval y)/\ ∀cs zs,o4 q S1 cs zs->o4 q S cs (zs:List α)):
  EffOK E (Z (mg q n) T b xs::O) G ⟨some aN,.call ⟨.builtin .copy,#[x,y],#[dT,sT]⟩,ty,pos,after,g⟩ (fun _=>Z (mg q n) T b (ni xs ys)::O) (fun _=>tD (rI .i64) ((min ys.length n:Nat):Int)):=fun a w S hs0 ho hf W=>by
 have Y:a.eval x= .slice (some ⟨b,0,none⟩) n n:=V S a hf
 obtain⟨S1,hS1,hy1,hback⟩:=hy a w S hs0 ho hf
 obtain⟨ad,cap,H,_,_,Q⟩:=jR.1 hy1
 obtain⟨⟨hno,cur,h5,h6,h7⟩,_⟩:=ho.1
 have hcl:cur.toList.length=n:=by rw [jl h7,hq,h6,xw]
 have hm:min ys.length n<=ys.length:=Nat.min_le_left _ _
 obtain⟨cs,hcs,hrun,hlen⟩: ∃cs,o4 q S cs (ys.take (min ys.length n))/\(Builtin.copy_ #[dT,sT] ty #[.slice (some ⟨b,0,none⟩) n n,a.eval y]).run E.P w= .ok (goInt cs.length) (w.setRow b (cs++cur.toList.drop cs.length).toArray)/\cs.length=min ys.length n:=by
  rw [H]
  rcases Q with rfl|⟨b',off,c,T',fr,rfl,e2,e3⟩
  ·refine⟨[],by simp [o4],?_,by simp⟩
   cases hel:E.P.info? el with
   |none=>simp [hel]at hs
   |some i=>
    have hi:i.size=1:=by simpa [hel] using hs
    have hself:w.setRow b (([]:List Value)++cur.toList.drop ([]:List Value).length).toArray=w:=by simpa using setRow_self w b cur T (0,0) h5
    rw [hself]
    cases ad with
    |none=>simp [Builtin.copy_,iv hu,Builtin.lenOf,Builtin.firstCells,sizeOf,typeInfo,hel,hi,storeCells]
    |some p=>
     have hl:=run_loadCells_list (P:=E.P) w p [] (fun j v hv=>by simp at hv)
     simp only [ul]at hl
     simp [Builtin.copy_,iv hu,Builtin.lenOf,Builtin.firstCells,sizeOf,typeInfo,hel,hi,storeCells,hl]
  ·obtain⟨c',h8,h9⟩:=hS1.part e2 (jl e3)
   obtain⟨d1,d2⟩:=Ae hq e3 hm
   rw [xm,hq,xw,uz hm]at d1
   have hl:((c.toList.drop off).take (min ys.length n)).length=min ys.length n:=by
    rw [jl d1,hq,xw,As,uz hm]
   have hcs:cur.size=n:=by simpa using hcl
   refine⟨_,hback _ _ d1,?_,hl⟩
   have:=run_copy_row (P:=E.P) w dT sT ty el b 0 n n ⟨b',off,none⟩ ys.length cap cur T ((c.toList.drop off).take (min ys.length n)) hu hs h5 hl (fun j v hv=>?_) (by rw [hl];omega) (vC d1)
   ·simpa using this
   ·have hj:j<min ys.length n:=by rw [<-hl];exact(pZ.1 hv).1
    have hcell:w.cell? ⟨b',off+j,none⟩=c'[off+j]? :=tX h8 _
    rw [hZ]
    show w.cell? ⟨b',off+j,none⟩=_
    rw [hcell]
    have h10:((c'.toList.drop off).take (ys.length*q.sz))[j]? =((c.toList.drop off).take (ys.length*q.sz))[j]? :=by rw [h9]
    rw [vX (by rw [hq];omega),vX (by rw [hq];omega),tk,tk]at h10
    rw [vX hj,tk]at hv
    rw [<-hv,<-Array.getElem?_toList,h10]
 have hx' :(execOp a.eval ⟨some aN,.call ⟨.builtin .copy,#[x,y],#[dT,sT]⟩,ty,pos,after,g⟩).run E.P w= .ok (.value (goInt cs.length)) (w.setRow b (cs++cur.toList.drop cs.length).toArray):=by
  simp [execOp,resolve,Y,invoke,builtin,hrun]
 refine⟨fun c h=>(by cases h),?_⟩
 rw [hx']
 have hle:min ys.length n<=xs.length:=by rw [h6];exact Nat.min_le_right _ _
 obtain⟨_,d4⟩:=Ae hq h7 hle
 have hnew:(mg q n).rc S (cs++cur.toList.drop cs.length) (ni xs ys):=by
  refine⟨by rw [qu];exact h6,?_⟩
  unfold ni
  rw [h6,hlen]
  have e1:ys.take n=ys.take (min ys.length n):=by
   rw [List.take_eq_take_iff];omega
  rw [e1]
  exact pf hcs d4
 obtain⟨g1,g2,g3⟩:=lV (O:=O) hs0 (w' :=w.setRow b (cs++cur.toList.drop cs.length).toArray) (Z (mg q n) T b xs) (Z (mg q n) T b (ni xs ys)) ho (fun _=>qM) (fun _=>qM) ⟨rfl,rfl,rfl,by simp [World.setRow],jW _⟩ (fun k hk=>setRow_other w b k _ hk) ⟨hno,_,setRow_heap w b cur _ T _ h5,by simpa using hnew⟩ hno
 refine⟨_,S,j8,rfl,g1.more fun k hk=>⟨_,nV ..,hk⟩,g2,g3,?_⟩
 rw [hlen]
 exact dq.2 rfl
def Ko(hs:dz xs lo hi=some ys)(h:xj mm r U l cap xs w S)(hS:kV w S): ∃S1,kV w S1/\(tD (gr r) ys).p S1 (mf r.sz l cap lo.toNat ys.length):=by
 obtain⟨S1,_,k2,hd⟩:=V7 h hS
 refine⟨S1,k2,?_⟩
 obtain⟨l',m,rfl,rfl,h7,h8,rfl⟩:=fb hs
 obtain⟨ad,c,Y,H,Q,h4⟩:=jR.1 hd
 have hlen:((xs.take m).drop l').length=m-l' :=by simp;omega
 cases l with
 |none=>
  obtain⟨cells,g1,_⟩:=h
  have V:xs=[]:=sd g1.1
  subst V
  have e:((([]:List α).take m).drop l')=[]:=by simp
  rw [e]
  exact Ek
 |some b=>
  have e1:Value.slice (some ⟨b,0,none⟩) xs.length cap= .slice ad xs.length c:=Y
  injection e1 with e2 _ e3
  subst e2
  subst e3
  have h5:=wL h4 h7 h8 H
  refine jR.2 ⟨_,cap-l',?_,by omega,by omega,h5⟩
  unfold mf
  simp only [yJ,hlen,uk,hZ,uj]
  split<;>rfl
def EW{k:IntKind}{xs ys zs:List Int}(hm:kP mm (rI k) U l cap zs∈Z (mg (rI k) n) T b xs::O)(hsl:dz zs lo hi=some ys)(hu:E.P.underlying dT=some (.slice el))(hs:(E.P.info? el).map (·.size)=some 1)(V:aI E.N G x (K (.slice (some ⟨b,0,none⟩) n n)))(hy:aI E.N G y (K (mf 1 l cap lo.toNat ys.length))):
  EffOK E (Z (mg (rI k) n) T b xs::O) G ⟨some aN,.call ⟨.builtin .copy,#[x,y],#[dT,sT]⟩,ty,pos,after,g⟩ (fun _=>Z (mg (rI k) n) T b (ni xs ys)::O) (fun _=>tD (rI .i64) ((min ys.length n:Nat):Int)):=
 Lo rfl hu hs V fun a w S hs0 ho hf=>by
  obtain⟨S1,Y,H⟩:=Ko hsl (dL.mem ho _ hm).1 hs0
  refine⟨S1,Y,?_,fun cs zs h=>by rw [xI h];exact(xI h)▸FV (fun h=>h) h⟩
  rw [show a.eval y=mf 1 l cap lo.toNat ys.length from hy S a hf]
  exact H
def Md{α:Type}(r:Rp α)(y:α)(b:Nat)(t:Ty):Ty where
 p:=fun S v=> ∀S1,SH.le S S1->(cH r y).p S1 (M b 0)->t.p S1 v
 mono:=fun h k S1 Y=>k S1 (SH.le_trans h Y)
def Oc{y:α}{t:Ty}{S1:SH}{a:Act}(h:aI N G x (Md r y b t))(hf:bR N S a G)(hle:SH.le S S1)(hk:(cH r y).p S1 (M b 0)):t.p S1 (a.eval x):=h S a hf S1 hle hk
def EA{γ:Type}{r:Rp γ}{z:γ}{args:α->List Ty}{res:β->Ty}{f:α->Option β}{fid:FuncId}{caps:List Operand}{cts:List Ty}(hc:ak E.P fid=true)(hcap: ∀(S S1:SH) (a:Act),bR E.N S a G->SH.le S S1->(cH r z).p S1 (M b 0)->uw S1 cts (caps.map a.eval))(hs: ∀x y,f x=some y->dy E.P fid (args x++cts) (res y)):b9 E O G ⟨dst,.makeFunc (.func fid) #[] caps.toArray,ty,pos,after,g⟩ (Md r z b (ke E.P args res f)):=
 .of_pure fun a w S _ _ hf=>by
  refine⟨.func (.func fid) #[] (caps.map a.eval).toArray,by simp [execOp,Instr.makeFunc],fun S1 Y hk=>⟨fid,_,rfl,hc,fun x y h w' S' vs hle hsat hv=>?_⟩⟩
  have hcv:=(hcap S S1 a hf Y hk).mono hle
  simpa using hs x y h w' S' _ hsat (hv.append hcv)
def IW{y:α}{S1:SH}{a:Act}(h:aI N G x (cH (rT (K (M b 0))) ()))(hf:bR N S a G)(hle:SH.le S S1)(hk:(cH r y).p S1 (M b 0)):(cH (VU r) y).p S1 (a.eval x):=by
 obtain⟨b',off,c,E',fr,Y,H,v,Q,_,h4⟩:=(cH (rT (K (M b 0))) ()).mono hle (h S a hf)
 have h4' :v=M b 0:=h4
 subst h4'
 exact⟨b',off,c,E',fr,Y,H,_,Q,hk⟩
def Ei(ti:TI P T sz bytes agg z):(P.info? T).map (·.size)=some sz:=by
 obtain⟨i,_,hi,hs,_⟩:=ti.get
 simp [hi,hs]
def Og(ti:TI P T sz bytes agg z):((P.info? T).map (·.size)).isSome=true:=by rw [Ei ti];rfl
def KM{α:Type}:Rp α where
 sz:=1
 agg:=false
 rc:=fun _ cs _=> ∃v,cs=[v]/\v.oneCell' =true
 mono:=fun _ h=>h
 len:=fun⟨v,h,_⟩=>by rw [h];rfl
 one:=fun⟨v,h,k⟩ c hc=>by rw [h]at hc;simp at hc;subst hc;exact k
 sc:=fun _=>rfl
def V9{u:Value}{y:α}(h:aI N G x (K u))(ho:u.oneCell' =true):aI N G x (tD KM y):=fun S a hf=>by
 have Y:a.eval x=u:=h S a hf
 rw [Y]
 exact⟨[u],rfl,u,rfl,ho⟩
def F6{c:Nat}:(an l c n).oneCell' =true:=by cases l<;>rfl
def I7{j:Int}{o:Oper}{post:OI->List OE}{t:OI->Ty}(h:dz xs 0 j=some ys)(k:EffOK E (cM r U l cap ys::O) G o post t):EffOK E (cM r U l cap xs::O) G o post t:=fun a w S hs ho hf W=>by
 have Y:dL E.base E.B w S (cM r U l cap ys::O):=⟨⟨J5 h ho.1.1,ho.1.2⟩,ho.2.1,ho.2.2⟩
 refine m7 (fun a' w' ⟨v,S',x,g1,g2,g3,g4,g5⟩=>⟨v,S',x,g1,g2.more fun b ⟨f,hf,W⟩=>?_,g3,g4,g5⟩) (k a w S hs Y hf W)
 rcases jy.1 hf with rfl|hf
 ·exact⟨_,nV ..,W⟩
 ·exact⟨f,o8 _ hf,W⟩
def E8(hm:kP mm r T l cap xs∈O)(hs:dz xs lo hi=some ys)(h:(l=none->ys.length=0)/\ys.length<=maxLen->CG E h3 c O G):CG E h3 c O G:=fun a w S st=>by
 refine h ?_ a w S st
 obtain⟨cells,Y,_⟩:=(st.own.mem _ hm).1
 obtain⟨l',m,_,_,_,h8,rfl⟩:=fb hs
 have hlen:((xs.take m).drop l').length<=xs.length:=by simp;omega
 cases l with
 |none=>have:=Y.1;exact⟨fun _=>by omega,by omega⟩
 |some b=>obtain⟨cur,_,g2,g3,_⟩:=Y;exact⟨fun h=>(by cases h),by omega⟩
def SV{b:Bool}:aI N G (.const (.bool b)) (tD rB b):=hB
def vt(b:Bool){l:List Oper}(Y:b=true->RG E ops h3 l O G)(H:b=false->RG E ops h3 l O G):RG E ops h3 l O G:=by
 cases b with
 |true=>exact Y rfl
 |false=>exact H rfl
def fY{aN:Option Tmp}{b:Bool}(hj:(ops[j]?).bind (·.dst)=some gs)(hgs:Nat.blt gs E.N.n=true)(W:b8 G gs=some (tD rB b))(e:b=pol)(k:RG E ops h3 (⟨aN,op,ty,pos,after,none⟩::rest) O G):
  RG E ops h3 (⟨aN,op,ty,pos,after,some (j,pol)⟩::rest) O G:=fun a w S st=>by
 have hgs' :gs<a.tmps.size:=by rw [st.facts.size];simpa [r0] using hgs
 have hw:=qP (o:=⟨aN,op,ty,pos,after,some (j,pol)⟩) rfl hj hgs' (oj W S a st.facts)
 have Y:=k a w S st
 unfold wpListIn at Y ⊢
 rw [hw,e]
 rw [bu (show Region.wanted ⟨aN,op,ty,pos,after,none⟩ (yielded ops a.tmps)=true from rfl)]at Y
 rw [bu (show(true&&(pol==pol))=true from by simp)]
 exact Y
def qD{c:Operand}{b:Bool}{t:Ty}(hc:aI E.N G c (tD rB b))(e:b=true)(V:aI E.N G x t):b9 E O G ⟨dst,.pick c x y,ty,pos,after,g⟩ t:=vG hc (fun _=>V) (fun h=>by rw [e]at h;cases h)
def pi{c:Operand}{b:Bool}{t:Ty}(hc:aI E.N G c (tD rB b))(e:b=false)(hy:aI E.N G y t):b9 E O G ⟨dst,.pick c x y,ty,pos,after,g⟩ t:=vG hc (fun h=>by rw [e]at h;cases h) (fun _=>hy)
end

section
variable{dst:Option Tmp}
def Ah{o:Nat}{yt e:TypeId}(D:E.P.underlying t=some (.pointer e))(V:aI E.N G x (K (M b o))):b9 E O G ⟨dst,.binOp .eql t x (.const (.pointer none)) yt,ty,pos,after,g⟩ (tD rB false):=
 .of_pure fun a w S _ _ hf=>by
  have Y:a.eval x=M b o:=V S a hf
  have Q:(Op.equal t (M b o) (.pointer none)).run E.P w= .ok false w:=xF fun aN=>by simp [Op.equalIn,iv D,M]
  have hcn:a.eval (.const (.pointer none))= .pointer none:=rfl
  refine⟨.bool false,?_,ie.2 rfl⟩
  unfold M at Y Q
  simp [execOp,Y,hcn,eqGuard,binOp,Q]
def FI(n:FuncId)(fts:List Ty):Ty where
 p:=fun S v=> ∃fst:List Value,v= .func (.func n) fst.toArray #[]/\uw S fts fst
 mono:=fun h ⟨cap,e,k⟩=>⟨cap,e,uw.mono h k⟩
def sR{fid:FuncId}{fst:List Operand}{fts:List Ty}(hf:js E.N G fst fts):b9 E O G ⟨dst,.makeFunc (.func fid) fst.toArray #[],ty,pos,after,g⟩ (FI fid fts):=
 .of_pure fun a w S _ _ hF=>⟨.func (.func fid) (fst.map a.eval).toArray #[],by simp [execOp,Instr.makeFunc],_,rfl,hf.tys hF⟩
end
section
def dB{b:Bool}(hj:(ops[j]?).bind (·.dst)=some gs)(hgs:Nat.blt gs E.N.n=true)(W:b8 G gs=some (tD rB b))(e:b= !pol)(hd:Nat.blt aN E.N.n=true)(k:RG E ops h3 rest O ((aN,m4 false (tD rB true))::G)):
  RG E ops h3 (⟨some aN,op,ty,pos,after,some (j,pol)⟩::rest) O G:=fun a w S st=>by
 have hgs' :gs<a.tmps.size:=by rw [st.facts.size];simpa [r0] using hgs
 have hw:=qP (o:=⟨some aN,op,ty,pos,after,some (j,pol)⟩) rfl hj hgs' (oj W S a st.facts)
 refine wpListIn_step fun tV hK=>?_
 rw [hw,e,aZ (by cases pol<;>simp)]
 exact⟨fun _ _=>trivial,hK _ _ (k _ _ S (st.step (ib _ _ _) st.sat hd rfl))⟩
def J9{b:Bool}(hj:(ops[j]?).bind (·.dst)=some gs)(hgs:Nat.blt gs E.N.n=true)(W:b8 G gs=some (m4 false (tD rB b)))(hd:Nat.blt aN E.N.n=true)(k:RG E ops h3 rest O ((aN,m4 false (tD rB true))::G)):
  RG E ops h3 (⟨some aN,op,ty,pos,after,some (j,pol)⟩::rest) O G:=fun a w S st=>by
 have hgs' :gs<a.tmps.size:=by rw [st.facts.size];simpa [r0] using hgs
 have hw:=qP (o:=⟨some aN,op,ty,pos,after,some (j,pol)⟩) rfl hj hgs' (y6 W S a st.facts)
 refine wpListIn_step fun tV hK=>?_
 rw [hw,aZ (by simp)]
 exact⟨fun _ _=>trivial,hK _ _ (k _ _ S (st.step (ib _ _ _) st.sat hd rfl))⟩
end
def rf{n:FuncId}{fts ts:List Ty}{fo:Operand}{xs:List Operand}(O1 Or:List OE){t:OI->Ty}{O2 post:OI->List OE}(hO:O=O1++Or)(hc:ak E.P n=true)(hs:bd E.P n (fts++ts) O1 t O2)(hf:aI E.N G fo (FI n fts))(V:js E.N G xs ts)(hpost: ∀i,O2 i++Or=post i):
  EffOK E O G ⟨some aN,.call ⟨.value fo,xs.toArray,ats⟩,ty,pos,after,g⟩ post t:=fun a w S hsat ho hF W=>by
 subst hO
 obtain rfl:(fun i=>O2 i++Or)=post:=funext hpost
 obtain⟨fst,e,hfst⟩:=hf S a hF
 have hr:(execOp a.eval ⟨some aN,.call ⟨.value fo,xs.toArray,ats⟩,ty,pos,after,g⟩).run E.P w= .ok (.enter n (fst.toArray++(xs.map a.eval).toArray)) w:=by
  simp [execOp,resolve,e,Deferred.ofValue,invoke,gA hc]
 refine⟨fun c h=>(by cases h),?_⟩
 rw [hr]
 have e2:fst.toArray++(xs.map a.eval).toArray=(fst++(xs.map a.eval)).toArray:=by simp
 rw [e2]
 exact(hs w S _ hsat (hfst.append (V.tys hF)) (ow ho).1.weak).mono fun en w' ⟨i,v,S',he,hv,Y,H,Q,h4⟩=>⟨_,he,v,S',i,rfl,Y.more fun b ⟨f,hf,W⟩=>⟨f,AH _ hf,W⟩,H,dL.turn ho W Y Q h4,hv⟩
def Ny(h:ni xs ys=zs):zs.length=xs.length:=by rw [<-h,qu]
def Ln(hq:q.sz=1)(hu:E.P.underlying dT=some (.slice el))(hs:(E.P.info? el).map (·.size)=some 1)(V:aI E.N G x (K (an l cap xs.length)))(hy:aI E.N G y (tD (gr q) ys))(hz:ni xs ys=zs):
  EffOK E (cM q U l cap xs::O) G ⟨some aN,.call ⟨.builtin .copy,#[x,y],#[dT,sT]⟩,ty,pos,after,g⟩ (fun _=>cM q U l cap zs::O) (fun _=>tD (rI .i64) ((min ys.length xs.length:Nat):Int)):=fun a w S hs0 ho hf W=>by
 subst hz
 have Y:a.eval x=an l cap xs.length:=V S a hf
 have hy1:=hy S a hf
 obtain⟨ad,cap',H,_,_,Q⟩:=jR.1 hy1
 obtain⟨⟨cells,hraw,hrc,hS⟩,hbase⟩:=ho.1
 have hm:min ys.length xs.length<=ys.length:=Nat.min_le_left _ _
 cases l with
 |none=>
  have hx0:xs=[]:=sd hraw.1
  subst hx0
  have hrun:(Builtin.copy_ #[dT,sT] ty #[.slice none 0 0,a.eval y]).run E.P w= .ok (goInt 0) w:=by
   rw [H]
   cases hel:E.P.info? el with
   |none=>simp [hel]at hs
   |some i=>
    have hi:i.size=1:=by simpa [hel] using hs
    cases ad with
    |none=>simp [Builtin.copy_,iv hu,Builtin.lenOf,Builtin.firstCells,sizeOf,typeInfo,hel,hi,storeCells]
    |some p=>
     have hl:=run_loadCells_list (P:=E.P) w p [] (fun j v hv=>by simp at hv)
     simp only [ul]at hl
     simp [Builtin.copy_,iv hu,Builtin.lenOf,Builtin.firstCells,sizeOf,typeInfo,hel,hi,storeCells,hl]
  have hx' :(execOp a.eval ⟨some aN,.call ⟨.builtin .copy,#[x,y],#[dT,sT]⟩,ty,pos,after,g⟩).run E.P w= .ok (.value (goInt 0)) w:=by
   have h1' :a.eval x= .slice none 0 0:=Y
   simp [execOp,resolve,h1',invoke,builtin,hrun]
  refine⟨fun c h=>(by cases h),?_⟩
  rw [hx']
  refine⟨_,S,j8,rfl,ib _ _ _,hs0,?_,?_⟩
  ·have e:ni ([]:List α) ys=[]:=by unfold ni;simp
   rw [e];exact ho
  ·exact dq.2 (by simp [goInt])
 |some b=>
  obtain⟨cur,g1,g2,g3,g4,g5⟩:=hraw
  rw [hq,xw]at g4 g5
  have h1' :a.eval x= .slice (some ⟨b,0,none⟩) xs.length cap:=Y
  have hxl:xs.length<=cur.toList.length:=by simp [g4];exact g2
  obtain⟨cs,hcs,hrun,hlen⟩: ∃cs,o4 q S cs (ys.take (min ys.length xs.length))/\(Builtin.copy_ #[dT,sT] ty #[.slice (some ⟨b,0,none⟩) xs.length cap,a.eval y]).run E.P w= .ok (goInt cs.length) (w.setRow b (cs++cur.toList.drop cs.length).toArray)/\cs.length=min ys.length xs.length:=by
   rw [H]
   rcases Q with rfl|⟨b',off,c,T',fr,rfl,e2,e3⟩
   ·refine⟨[],by simp [o4],?_,by simp⟩
    cases hel:E.P.info? el with
    |none=>simp [hel]at hs
    |some i=>
     have hi:i.size=1:=by simpa [hel] using hs
     have hself:w.setRow b (([]:List Value)++cur.toList.drop ([]:List Value).length).toArray=w:=by simpa using setRow_self w b cur U (0,0) g1
     rw [hself]
     cases ad with
     |none=>simp [Builtin.copy_,iv hu,Builtin.lenOf,Builtin.firstCells,sizeOf,typeInfo,hel,hi,storeCells]
     |some p=>
      have hl:=run_loadCells_list (P:=E.P) w p [] (fun j v hv=>by simp at hv)
      simp only [ul]at hl
      simp [Builtin.copy_,iv hu,Builtin.lenOf,Builtin.firstCells,sizeOf,typeInfo,hel,hi,storeCells,hl]
   ·obtain⟨c',h8,h9⟩:=hs0.part e2 (jl e3)
    obtain⟨d1,d2⟩:=Ae hq e3 hm
    rw [xm,hq,xw,uz hm]at d1
    have hl:((c.toList.drop off).take (min ys.length xs.length)).length=min ys.length xs.length:=by
     rw [jl d1,hq,xw,As,uz hm]
    refine⟨_,d1,?_,hl⟩
    have:=run_copy_row (P:=E.P) w dT sT ty el b 0 xs.length cap ⟨b',off,none⟩ ys.length cap' cur U ((c.toList.drop off).take (min ys.length xs.length)) hu hs g1 hl (fun j v hv=>?_) (by rw [hl];simp at hxl;omega) (vC d1)
    ·simpa using this
    ·have hj:j<min ys.length xs.length:=by rw [<-hl];exact(pZ.1 hv).1
     have hcell:w.cell? ⟨b',off+j,none⟩=c'[off+j]? :=tX h8 _
     rw [hZ]
     show w.cell? ⟨b',off+j,none⟩=_
     rw [hcell]
     have h10:((c'.toList.drop off).take (ys.length*q.sz))[j]? =((c.toList.drop off).take (ys.length*q.sz))[j]? :=by rw [h9]
     rw [vX (by rw [hq];omega),vX (by rw [hq];omega),tk,tk]at h10
     rw [vX hj,tk]at hv
     rw [<-hv,<-Array.getElem?_toList,h10]
  have hx' :(execOp a.eval ⟨some aN,.call ⟨.builtin .copy,#[x,y],#[dT,sT]⟩,ty,pos,after,g⟩).run E.P w= .ok (.value (goInt cs.length)) (w.setRow b (cs++cur.toList.drop cs.length).toArray):=by
   simp [execOp,resolve,h1',invoke,builtin,hrun]
  refine⟨fun c h=>(by cases h),?_⟩
  rw [hx']
  have hle:min ys.length xs.length<=xs.length:=Nat.min_le_right _ _
  have hrc' :o4 q S (cur.toList.take xs.length) xs:=by rw [g5];exact hrc
  obtain⟨_,d4⟩:=Ae hq hrc' hle
  have hno:S b=none:=hS b rfl
  have hnew:xj false q U (some b) cap (ni xs ys) (w.setRow b (cs++cur.toList.drop cs.length).toArray) S:=by
   refine⟨(cs++cur.toList.drop cs.length).take xs.length,⟨_,setRow_heap w b cur _ U _ g1,by rw [qu];exact g2,g3,?_,by rw [qu,hq,xw]⟩,?_,fun b' hb' =>by cases hb';exact hno⟩
   ·simp [hlen,hq];simp at hxl;omega
   ·unfold ni
    have e1:ys.take xs.length=ys.take (min ys.length xs.length):=by rw [List.take_eq_take_iff];omega
    have e2:(cs++cur.toList.drop cs.length).take xs.length=cs++(cur.toList.take xs.length).drop cs.length:=by
     rw [List.take_append,sb (by omega),wi]
    rw [e1,e2,hlen]
    exact pf hcs d4
  obtain⟨k1,k2,k3⟩:=lV (O:=O) hs0 (w' :=w.setRow b (cs++cur.toList.drop cs.length).toArray) (cM q U (some b) cap xs) (cM q U (some b) cap (ni xs ys)) ho (fun k=>by simp [cM,kP];exact eq_comm) (fun k=>by simp [cM,kP];exact eq_comm) ⟨rfl,rfl,rfl,by simp [World.setRow],jW _⟩ (fun k hk=>setRow_other w b k _ hk) hnew hno
  refine⟨_,S,j8,rfl,k1.more fun k hk=>⟨_,nV ..,by subst hk;rfl⟩,k2,k3,?_⟩
  rw [hlen]
  exact dq.2 rfl
def NW{e:Exit}(h:AT E h3 e (Z (gr r) T b xs::O) G):
  AT E h3 e (Z rV T b (an l cap xs.length)::tip r U l cap xs::O) G:=fun a w S st=>h a w S (st.own_map fun⟨⟨⟨g1,c,g2,g3⟩,g4⟩,g5,g6⟩=>by
 obtain⟨a',cap',e,Y,H,Q⟩:=jR.1 (lM g6.1.1)
 exact⟨⟨⟨g1,c,g2,a',cap',by rw [g3.1,e],Y,H,Q⟩,g4⟩,fun f hf=>g5 f (.tail _ hf),g6.2.2⟩)

def uD{α:Type}(n c:Int)(z:α):Option (List α):=if 0<=n/\n<=c/\c<=68719476736 then some (List.replicate n.toNat z)else none
def Fu{n c:Int}{z:α}(h:uD n c z=some zs): ∃m k:Nat,n=m/\c=k/\m<=k/\k<=68719476736/\zs=List.replicate m z:=by
 unfold uD at h
 split at h
 ·rename_i hc;exact⟨n.toNat,c.toNat,by omega,by omega,by omega,by omega,by simpa using h.symm⟩
 ·cases h
def K7(z:List Value)(m k sz:Nat)(h:z.length=sz)(hk:m<=k):(madeCells z.toArray (k*sz)).toList.take (m*sz)=(List.replicate m z).flatten:=by
 rw [sU z k sz h]
 obtain⟨j,rfl⟩: ∃j,k=m+j:=⟨k-m,by omega⟩
 rw [show List.replicate (m+j) z=List.replicate m z++List.replicate j z from(List.replicate_append_replicate ..).symm,List.flatten_append,z1 (by rw [flat_len h];omega)]
 exact sb (by rw [flat_len h];omega)
section
def zh{x:α}{n c:Int}{y' :Operand}{k k' :IntKind}(ti:TI E.P T sz bytes agg z)(hsz:r.sz=sz)(hz:Nat.beq z.length sz=true)(h128:Nat.ble bytes 2048=true)(D:E.P.underlying t=some (.slice T))(V: ∀S,r.rc S z x)(hy:aI E.N G y (tD (rI k) n))(hy' :aI E.N G y' (tD (rI k') c))(h:uD n c x=some zs):
  EffOK E O G ⟨some aN,.makeSlice t y y',ty,pos,after,g⟩ (fun i=>cM r T (i.h 0).1 (i.h 0).2 zs::O) (fun i=>K (an (i.h 0).1 (i.h 0).2 zs.length)):=fun a w S hs ho hf W=>by
 subst hsz
 obtain⟨i,zv,hi,Y,H,Q,h4⟩:=ti.get
 obtain⟨m,c,rfl,rfl,hmc,hm,rfl⟩:=Fu h
 have hyv:=dq.1 (hy S a hf)
 have hyv' :=dq.1 (hy' S a hf)
 have hz2:z.length=r.sz:=nk hz
 have h128' :=pN h128
 have hbytes:(i.bytes:Int)*(c:Int)<=281474976710656:=by
  have:i.bytes*c<=2048*68719476736:=Nat.mul_le_mul (by omega) hm
  have h5:((i.bytes*c:Nat):Int)<=281474976710656:=by omega
  rwa [Int.natCast_mul]at h5
 have hr:=run_make (P:=E.P) w t T i zv D hi Q k k' (m:Int) (c:Int) (by omega) (by omega) hbytes (by omega)
 rw [yJ,yJ,Y,h4]at hr
 obtain⟨he,hs',hno⟩:=iG (w:=w) (.cells (madeCells z.toArray (c*r.sz)) T (0,0)) hs
 have hrun:(execOp a.eval ⟨some aN,.makeSlice t y y',ty,pos,after,g⟩).run E.P w= .ok (.value (.slice (some ⟨w.heap.size,0,none⟩) m c)) (w.alloc (.cells (madeCells z.toArray (c*r.sz)) T (0,0))):=by
  simp [execOp,hyv,hyv',hr]
 refine⟨fun c h=>(by cases h),?_⟩
 rw [hrun]
 have hfl:=flat_len hz2 m
 refine⟨_,S,oi (some w.heap.size) c,rfl,he.more fun _ W=>W.elim,hs',pJ ho he (e:=cM r T (some w.heap.size) c (List.replicate m x)) ⟨(List.replicate m z).flatten,⟨_,Aq w _,by simpa using hmc,by simp only [maxLen];omega,by rw [size_madeCells],?_⟩,sM V S m,fun b W=>by rw [<-oy W];exact hno⟩ (fun b W=>xx (oy W)) W,?_⟩
 ·rw [AI]
  exact K7 z m c r.sz hz2 hmc
 ·show _=an _ _ _
  rw [AI];rfl
end

structure VP{κ:Type} [DecidableEq κ](P:Program)(kt:TypeId)(kv:κ->Value):Prop where
 chk: ∀e w k,(Instr.checkKey e 10000 kt (kv k)).run P w= .ok () w
 eql: ∀w a b,(Op.equal kt (kv a) (kv b)).run P w= .ok (decide (a=b)) w
 wide:(match P.underlying kt with|some (.array _ _)|some (.struct _)=>true|_=>false)=true
 same: ∀k,Instr.sameBits 10000 (kv k) (kv k)=true
 inj: ∀a b,kv a=kv b->a=b
def OO(p:Int×Int):Value:= .agg #[.int .i64 p.1,.int .i64 p.2]
def k2(l:List Int):Int×Int:=(l.getD 0 0,l.getD 1 0)
variable{kt:TypeId}
def Br{kt el:Nat}(h:P.underlying kt=some (.array 2 el))(he:P.underlying el=some (.int .i64))(ti:TI P el sz bytes agg z)(hsz:Nat.beq sz 1=true)(hq:Hj P kt (mg (rI .i64) 2)):VP P kt OO where
 chk:=fun e w k=>by
  obtain⟨i,zv,hi,hs,_⟩:=ti.get
  have Y:sz=1:=nk hsz
  have ha:(isAgg el).run P w= .ok false w:=by
   simp [isAgg,iv he,Result.andThen]
  have Q: ∀(j:Nat) (x:Int) (cs:Array Value),cs[j]? =some (.int .i64 x)->(part el cs (j*i.size)).run P w= .ok (.int .i64 x) w:=fun j x cs hj=>by
   simp [part,ha,Result.andThen,hs,Y,hj]
  have h4: ∀x:Int,(Instr.checkKey e 9999 el (.int .i64 x)).run P w= .ok () w:=fun x=>by
   show(Instr.checkKey e (9998+1) el (.int .i64 x)).run P w= .ok () w
   unfold Instr.checkKey
   simp only [rl,iv he,sF]
   rfl
  have e1:=Q 0 k.1 #[.int .i64 k.1,.int .i64 k.2] rfl
  have e2:=Q 1 k.2 #[.int .i64 k.1,.int .i64 k.2] rfl
  show(Instr.checkKey e (9999+1) kt (OO k)).run P w= .ok () w
  unfold Instr.checkKey
  simp only [OO,rl,iv h,sF,Std.Legacy.Range.forIn_eq_forIn_range',Std.Legacy.Range.size,Nat.sub_zero,Nat.add_sub_cancel,Nat.div_one,List.range'_succ,List.range'_zero,List.forIn_cons,List.forIn_nil,sizeOf,typeInfo,hi,Sem.run_pure,Nat.zero_mul,uj,Nat.one_mul]
  simp only [Nat.zero_mul,Nat.one_mul]at e1 e2
  simp [e1,e2,h4,Result.andThen,hi]
 eql:=fun w a b=>by
  have:=hq.run (fun _=>none) [.int .i64 a.1,.int .i64 a.2] [.int .i64 b.1,.int .i64 b.2] [a.1,a.2] [b.1,b.2] 9980 w ⟨rfl,[_],[_],rfl,rfl,[_],[],rfl,rfl,rfl⟩ ⟨rfl,[_],[_],rfl,rfl,[_],[],rfl,rfl,rfl⟩
  have e1:decide (([a.1,a.2]:List Int)=[b.1,b.2])=decide (a=b):=by
   obtain⟨a1,a2⟩:=a;obtain⟨b1,b2⟩:=b;simp
  rw [e1]at this
  show(Op.equalIn (9980+20) kt (OO a) (OO b)).run P w=_
  exact this
 wide:=by rw [h]
 same:=fun k=>by
  show Instr.sameBits (9999+1) (OO k) (OO k)=true
  unfold Instr.sameBits OO
  simp only [List.zip_cons_cons,List.zip_nil_left,zw,List.all_nil]
  unfold Instr.sameBits
  simp
 inj:=fun a b h=>by
  obtain⟨a1,a2⟩:=a;obtain⟨b1,b2⟩:=b
  simpa [OO] using h
section
variable [DecidableEq κ]
end
section
variable [DecidableEq κ]
end

def MM(p:Int×Int×Int):Value:= .agg #[.int .i64 p.1,.int .i64 p.2.1,.int .i64 p.2.2]
def TF{kt el:Nat}{l:Array Field} [DecidableEq α]{mk:Int×Int×Int->α}(h:P.underlying kt=some (.struct l))(hl:l.toList.map (fun f=>(f.type,f.offset))=[(el,0),(el,1),(el,2)])(he:P.underlying el=some (.int .i64))(ti:TI P el sz bytes agg z)(hsz:Nat.beq sz 1=true)(hag:r.agg=true)(hr: ∀p:Int×Int×Int,r.rc (fun _=>none) [.int .i64 p.1,.int .i64 p.2.1,.int .i64 p.2.2] (mk p))(hinj: ∀p q,mk p=mk q->p=q)(hq:Hj P kt r):VP P kt MM where
 chk:=fun e w k=>by
  obtain⟨i,zv,hi,hs,_⟩:=ti.get
  have Y:sz=1:=nk hsz
  have ha:(isAgg el).run P w= .ok false w:=by
   simp [isAgg,iv he,Result.andThen]
  have Q: ∀(j:Nat) (x:Int) (cs:Array Value),cs[j]? =some (.int .i64 x)->(part el cs j).run P w= .ok (.int .i64 x) w:=fun j x cs hj=>by
   simp [part,ha,Result.andThen,hj]
  have h4: ∀x:Int,(Instr.checkKey e 9999 el (.int .i64 x)).run P w= .ok () w:=fun x=>by
   show(Instr.checkKey e (9998+1) el (.int .i64 x)).run P w= .ok () w
   unfold Instr.checkKey
   simp only [rl,iv he,sF]
   rfl
  have e1:=Q 0 k.1 #[.int .i64 k.1,.int .i64 k.2.1,.int .i64 k.2.2] rfl
  have e2:=Q 1 k.2.1 #[.int .i64 k.1,.int .i64 k.2.1,.int .i64 k.2.2] rfl
  have e3:=Q 2 k.2.2 #[.int .i64 k.1,.int .i64 k.2.1,.int .i64 k.2.2] rfl
  obtain⟨l0,rfl⟩: ∃l0:List Field,l=l0.toArray:=⟨l.toList,by simp⟩
  have hlen:l0.length=3:=by simpa using congrArg List.length hl
  obtain⟨f0,f1,f2,rfl⟩: ∃f0 f1 f2,l0=[f0,f1,f2]:=by
   match l0,hlen with
   |[a,b,c],_=>exact⟨a,b,c,rfl⟩
  simp only [AA,List.map_nil,List.cons.injEq,Prod.mk.injEq,and_true]at hl
  obtain⟨⟨a0,b0⟩,⟨a1,b1⟩,⟨a2,b2⟩⟩:=hl
  show(Instr.checkKey e (9999+1) kt (MM k)).run P w= .ok () w
  unfold Instr.checkKey
  simp only [MM,rl,iv h,sF]
  by_cases n0:f0.name= "_" <;>by_cases n1:f1.name= "_" <;>by_cases n2:f2.name= "_" <;>simp [n0,n1,n2,a0,a1,a2,b0,b1,b2,e1,e2,e3,h4,Result.andThen]
 eql:=fun w a b=>by
  have:=hq.run (fun _=>none) _ _ _ _ 9980 w (hr a) (hr b)
  have e1:decide (mk a=mk b)=decide (a=b):=Ff.2 ⟨fun e=>hinj a b e,fun e=>by rw [e]⟩
  rw [e1]at this
  have hv: ∀p:Int×Int×Int,r.val [.int .i64 p.1,.int .i64 p.2.1,.int .i64 p.2.2]=MM p:=fun p=>by simp [Rp.val,hag,MM]
  rw [hv,hv]at this
  show(Op.equalIn (9980+20) kt (MM a) (MM b)).run P w=_
  exact this
 wide:=by rw [h]
 same:=fun k=>by
  show Instr.sameBits (9999+1) (MM k) (MM k)=true
  unfold Instr.sameBits MM
  simp only [List.zip_cons_cons,List.zip_nil_left,zw,List.all_nil]
  unfold Instr.sameBits
  simp
 inj:=fun a b h=>by
  obtain⟨a1,a2,a3⟩:=a;obtain⟨b1,b2,b3⟩:=b
  simpa [MM] using h
section
variable [DecidableEq κ]
end
variable{os:Array Obj}
section
variable [DecidableEq κ]{hx:MV β}{os:List (Option Nat×Nat)}{h:Option κ}
end
section
variable{e:Exit}
end

section
variable [DecidableEq κ]
end
section
variable [DecidableEq κ]{u:Operand}
end
open Go.Sort Go.Shelf

def xU{k:Nat}(h:k<w.heap.size):(grow w os).heap[k]? =w.heap[k]? :=by
 unfold grow;exact Array.getElem?_append_left h
variable{enc:α->Value}
def Gr [Inhabited α]{aN:Array α}{k:Nat}(h:k≠b):(putRow enc w b off aN).heap[k]? =w.heap[k]? :=by
 unfold putRow mapBlock
 rw [Array.getElem?_modify,aZ (Ne.symm h)]
def xT [Inhabited α]{m:Nat}{aN:Array α}{k:Nat}(hk:k<w.heap.size)(h:k≠b):(sortWorld enc w b off m aN os).heap[k]? =w.heap[k]? :=by
 unfold sortWorld
 rw [xU (by rw [size_putRow];exact hk),Gr h];rfl
def EI [Inhabited α]{m:Nat}{aN:Array α}{c:Array Value}{fr:Nat×Nat}(h:w.heap[b]? =some (.cells c T fr)):
  (sortWorld enc w b off m aN os).heap[b]? =some (.cells (putCells enc off aN c) T fr):=by
 have hlt:=(D9.1 h).1
 unfold sortWorld
 rw [xU (by rw [size_putRow];exact hlt)]
 unfold putRow mapBlock
 rw [Array.getElem?_modify,bu rfl]
 show Option.map _ (w.heap[b]?)=_
 rw [h];rfl
def Cy [Inhabited α]{aN:Array α}{c:Array Value}(h:aN.size<=c.size):(putCells enc 0 aN c).toList.take aN.size=aN.toList.map enc:=by
 apply List.ext_getElem?
 intro k
 by_cases hk:k<aN.size
 ·rw [vX hk]
  have hc:k<c.size:=by omega
  simp [putCells,hc,hk]
 ·rw [Hk (by simp;omega),Hk (by simp;omega)]
section
def G0{m:Nat}(hl:m=n)(ae:Nat)(hs:b8 G ae=some (K (an l cap n)))(k:RG E ops h3 rest O ((ae,K (an l cap m))::G)):RG E ops h3 rest O G:=by
 subst hl
 exact fun a w S st=>k a w S ⟨st.ext,st.sat,st.own,⟨st.facts.size,st.facts.defers,fun j t h=>by
  unfold b8 at h
  by_cases W:Nat.beq ae j=true
  ·rw [W]at h
   have:=nk W
   subst this
   have e:K (an l cap m)=t:=by simpa using h
   rw [<-e];exact st.facts.at_ ae _ hs
  ·rw [yH]at W
   rw [W]at h
   exact st.facts.at_ j t h⟩⟩
end

def SU{α:Type}(cmp:α×α->Option Int)(x y:α):Bool:=
 match cmp (x,y)with
 |some c=>decide (c<0)
 |none=>false
def TH{α:Type}(lt:α->α->Bool)(x:α):List α->List α
 |[]=>[x]
 |y::ys=>if lt y x then y::TH lt x ys else x::y::ys
def Qm{α:Type}(lt:α->α->Bool):List α->List α
 |[]=>[]
 |x::xs=>TH lt x (Qm lt xs)
structure Good{α:Type}(cmp:α×α->Option Int)(xs:List α):Prop where
 len:xs.length<=1099511627776
 tot: ∀x∈xs,∀y∈xs,(cmp (x,y)).isSome=true
 irr: ∀x∈xs,SU cmp x x=false
 tr: ∀x∈xs,∀y∈xs,∀z∈xs,SU cmp x y=true->SU cmp y z=true->SU cmp x z=true
 anti: ∀x∈xs,∀y∈xs,SU cmp x y=false->SU cmp y x=false->x=y
def sortI(xs:List Int):List Int:=xs.mergeSort fun x y=>decide (x<=y)
def yQ(xs:List Int):(sortI xs).length=xs.length:=by unfold sortI;simp
def AZ(xs:List Int):Option (List Int):=if xs.length<=68719476736 then some (sortI xs)else none
def FK{xs ys:List Int}(h:AZ xs=some ys):xs.length<=68719476736/\ys=sortI xs:=by
 unfold AZ at h
 split at h
 ·exact⟨by assumption,by simpa using h.symm⟩
 ·cases h


def Js{k:IntKind}{S:SH}: ∀{xs:List Int} {cs:List Value},o4 (rI k) S cs xs->cs=xs.map (Value.int k)
 |[],cs,h=>by rw [show cs=[]from h];rfl
 |x::xs,cs,⟨a,b,e,Y,H⟩=>by
  rw [e,show a=[.int k x]from Y,Js H]
  rfl
def JI{k:IntKind}{S:SH}: ∀xs:List Int,o4 (rI k) S (xs.map (Value.int k)) xs
 |[]=>rfl
 |x::xs=>⟨[.int k x],_,rfl,rfl,JI xs⟩
def Kz{ρ:Ren}(L:Lays.n189 P ρ){xs:List Int}(hlen0:xs.length<=68719476736)(hs:kV w S)(h:(cM (rI .i64) T l cap xs).p w S):
  Calls P (ρ.f 189) #[an l cap xs.length] w fun e w' =>e= .returned (.tuple #[])/\jc (fun k=>l=some k) w S w' S/\kV w' S/\(cM (rI .i64) T l cap (sortI xs)).p w' S:=by
 cases l with
 |none=>
  have V:xs=[]:=sd (by obtain⟨_,h4,_⟩:=h;exact h4.1)
  subst V
  exact(Any.slices_Sort_int_none (P:=P) (ρ:=ρ) L none 0 w).mono fun _ _ ⟨Y,H⟩=>by subst H;exact⟨Y,ib _ _ _,hs,by simpa [sortI] using h⟩
 |some b=>
  obtain⟨cells0,⟨cur,W,hle,hmax,hcs,hct⟩,hrc,hno0⟩:=h
  have hno:S b=none:=hno0 b rfl
  subst hct
  have Y:(rI .i64).sz=1:=rfl
  rw [Y,xw]at hcs hrc
  have hcells:=Js hrc
  have hH:Holds (Value.int .i64) w b 0 xs.toArray:=by
   intro j hj
   have hj' :j<xs.length:=by simpa using hj
   have hc:cur[j]? =some (Value.int .i64 xs.toArray[j]!):=by
    have:(cur.toList.take xs.length)[j]? =some (Value.int .i64 xs.toArray[j]!):=by
     rw [hcells,List.getElem?_map,getElem!_pos xs.toArray j hj]
     simp [hj']
    rw [vX (by omega)]at this
    simpa using this
   refine⟨by simp [World.cell?,W,hc],?_⟩
   simp [World.frozen?,W]
  have hblk:=(D9.1 W).1
  have hcall:=calls_of_every_depth fun ht=>AnyS.slices_Sort_int_alone (P:=P) (ρ:=ρ) L ht b 0 cap xs w hH hblk (by omega)
  refine hcall.mono fun e w' ⟨he,n,os,hw⟩=>?_
  have hlen:=yQ xs
  have hw2:w' =sortWorld (Value.int .i64) w b 0 n (sortI xs).toArray os:=hw
  subst hw2
  refine⟨he,⟨rfl,rfl,rfl,Nat.le_add_right _ _,?_,fun k hk hkb=>xT hk (fun e=>hkb (by rw [e])),SH.le_refl _,fun _ _ _=>rfl⟩,hs.same fun k o hk=>?_,⟨_,⟨_,EI W,by omega,hmax,?_,rfl⟩,?_,hno0⟩⟩
  ·unfold sortWorld;rw [size_grow,size_putRow];exact Nat.le_add_right _ _
  ·have hkb:k≠b:=fun e=>by subst e;rw [hno]at hk;cases hk
   exact xT (hs.lt hk) hkb
  ·simp [putCells,Y,hcs]
  ·have e1:(sortI xs).length*(rI .i64).sz=(sortI xs).toArray.size:=by rw [Y];simp
   rw [e1,Cy (by simp;omega)]
   exact JI (sortI xs)
section
def NO{ρ:Ren}(L:Lays.n189 E.P ρ){f:FuncId}(hf:ρ.f 189=f)(hc:ak E.P f=true){xs ys:List Int}(hy:AZ xs=some ys)(V:aI E.N G x (K (an l cap n)))(hn:n=xs.length)(hd:Nat.blt aN E.N.n=true)(k:ys.length=n->RG E ops h3 rest (cM (rI .i64) T l cap ys::O) ((aN,AW)::G)):RG E ops h3 (⟨some aN,.call ⟨.value (.func f),#[x],ats⟩,ty,pos,after,none⟩::rest) (cM (rI .i64) T l cap xs::O) G:= .of rfl fun a w S st=>by
 obtain⟨hl0,rfl⟩:=FK hy
 subst hf
 subst hn
 have Y:a.eval x=an l cap xs.length:=V S a st.facts
 have hr:(execOp a.eval ⟨some aN,.call ⟨.value (.func (ρ.f 189)),#[x],ats⟩,ty,pos,after,none⟩).run E.P w= .ok (.enter (ρ.f 189) #[an l cap xs.length]) w:=by
  have e0:a.eval (.func (ρ.f 189))= .func (.func (ρ.f 189)) #[] #[]:=rfl
  simp [execOp,resolve,e0,Y,Deferred.ofValue,invoke,gA hc]
 refine⟨fun c h=>(by cases h),?_⟩
 rw [hr]
 refine(Kz L hl0 st.sat st.own.1.1).mono fun e w' ⟨he,hext,hsat,hp⟩=>⟨_,he,?_⟩
 have hfp: ∀g∈O,∀b,g.fp b-> ¬(l=some b):=fun g X b W hl=>st.own.2.1 g X b hl W
 refine k (yQ xs) _ _ S ⟨st.ext.step hext (fun c hc=>st.own.1.2 c hc),hsat,⟨⟨hp,st.own.1.2⟩,st.own.2.1,st.own.2.2.ext hext hfp⟩,?_⟩;exact(st.facts.mono hext.keep).put hd trivial
end
end Go.Proofs.YtdohlidddcgfjaaGreat

