import Derived.Test.YtaehdhmbgmbgiaaGreatDoorKkV3
import Derived.Test.YtaehdhmbgmbgiaaGreatDoorKkV2
import Derived.Test.YtaehdhmbgmbgiaaGreatDoorKkV1
import Derived.Shelf.GgSortFunc.Insertion
import Derived.Shelf.Slices.In.SortNone
import Derived.Shelf.SlSortCmp.NoneTotal
set_option linter.all false
namespace Go.Proofs.YtaehdhmbgmbgiaaGreatDoor
open Go
variable{S:SH}{b:Nat}{α:Type}{k:Nat}{r:Rp α}{xs:List α}
def ZB{α:Type}{r r' :Rp α}(h: ∀S cs x,r.rc S cs x->r'.rc S cs x){S:SH}: ∀{xs:List α} {cs:List Value},xX r S cs xs->xX r' S cs xs
 |[],_,k=>k
 |_::_,_,⟨a,b,e,I,M⟩=>⟨a,b,e,h _ _ _ I,ZB h M⟩
variable{n:FuncId}
def afa{α:Type}{R:Nat->Rp α}(up: ∀n S cs x,(R n).rc S cs x->(R (n+1)).rc S cs x){S:SH}{cs:List Value}{x:α}{n:Nat}(h:(R n).rc S cs x): ∀k,(R (n+k)).rc S cs x
 |0=>h
 |k+1=>up _ _ _ _ (afa up h k)
def ais{R:Nat->Rp α}(up: ∀n S cs x,(R n).rc S cs x->(R (n+1)).rc S cs x){cs:List Value}{x:α}{n m:Nat}(h:(R n).rc S cs x)(hm:n<=m):(R m).rc S cs x:=by
 obtain⟨k,rfl⟩:=Nat.exists_eq_add_of_le hm;exact afa up h k
def RU{α:Type}{r:Rp α}{R:Nat->Rp α}(up: ∀n S cs x,(R n).rc S cs x->(R (n+1)).rc S cs x)(h: ∀S cs x,r.rc S cs x-> ∃n,(R n).rc S cs x){S:SH}: ∀{xs:List α} {cs:List Value},xX r S cs xs-> ∃n,∀m,n<=m->xX (R m) S cs xs
 |[],_,k=>⟨0,fun _ _=>k⟩
 |_::_,_,⟨a,b,e,I,M⟩=>by
  obtain⟨n1,g1⟩:=h _ _ _ I;obtain⟨n2,g2⟩:=RU up h M;exact⟨max n1 n2,fun m hm=>⟨a,b,e,ais up g1 (by omega),g2 m (by omega)⟩⟩
structure RM{α β:Type}(K:Nat)(F:Rp α->Rp β):Prop where
 sz: ∀r r',r.sz=K->r'.sz=K->(F r).sz=(F r').sz
 mono: ∀r r',r.sz=K->r'.sz=K->(∀S cs x,r.rc S cs x->r'.rc S cs x)-> ∀S cs x,(F r).rc S cs x->(F r').rc S cs x
 cont: ∀(R:Nat->Rp α),(∀n,(R n).sz=K)->(∀n S cs x,(R n).rc S cs x->(R (n+1)).rc S cs x)-> ∀r,r.sz=K->(∀S cs x,r.rc S cs x-> ∃n,(R n).rc S cs x)-> ∀S cs x,(F r).rc S cs x-> ∃n,∀m,n<=m->(F (R m)).rc S cs x
variable{K:Nat}{β:Type}
def RM.const(p:Rp β):RM K (fun _:Rp α=>p):=⟨fun _ _ _ _=>rfl,fun _ _ _ _ _ _ _ _ h=>h,fun _ _ _ _ _ _ _ _ _ h=>⟨0,fun _ _=>h⟩⟩
variable{E:En}{cap off:Nat}
def RM.sl:RM K (fun r:Rp α=>gM r):=by
 refine⟨fun _ _ _ _=>rfl,fun r r' I M h S cs x=>?_,fun R hR up r hr h S cs x=>?_⟩
 ·rintro⟨a,cap,e,q1,q2,q3⟩;refine⟨a,cap,e,q1,q2,q3.imp id ?_⟩;rintro⟨b,off,c,E,fr,e1,e2,e3⟩;rw [I]at e3;refine⟨b,off,c,E,fr,e1,e2,?_⟩;rw [M];exact ZB h e3
 ·rintro⟨a,cap,e,q1,q2,q3⟩;rcases q3 with q3|⟨b,off,c,E,fr,e1,e2,e3⟩
  ·exact⟨0,fun m _=>⟨a,cap,e,q1,q2,.inl q3⟩⟩
  ·rw [hr]at e3;obtain⟨n,hn⟩:=RU up h e3;refine⟨n,fun m hm=>⟨a,cap,e,q1,q2,.inr ⟨b,off,c,E,fr,e1,e2,?_⟩⟩⟩;rw [hR];exact hn m hm
variable{G:pC}
def Xw{γ:Type}{F:Rp α->Rp β}{G:Rp α->Rp γ}(h:RM K F)(k:RM K G):RM K (fun r=>dD (F r) (G r)):=by
 refine⟨fun r r' I M=>?_,fun r r' I M h3 S cs x=>?_,fun R hR up r hr h3 S cs x=>?_⟩
 ·show(F r).sz+(G r).sz=_+_;rw [h.sz r r' I M,k.sz r r' I M]
 ·rintro⟨a,b,e,q1,q2⟩;exact⟨a,b,e,h.mono r r' I M h3 _ _ _ q1,k.mono r r' I M h3 _ _ _ q2⟩
 ·rintro⟨a,b,e,q1,q2⟩;obtain⟨n1,g1⟩:=h.cont R hR up r hr h3 _ _ _ q1;obtain⟨n2,g2⟩:=k.cont R hR up r hr h3 _ _ _ q2;exact⟨max n1 n2,fun m hm=>⟨a,b,e,g1 m (by omega),g2 m (by omega)⟩⟩
def RM.map{γ:Type}{F:Rp α->Rp β}(f:γ->β)(h:RM K F):RM K (fun r=>sr (F r) f):=
 ⟨fun r r' I M=>h.sz r r' I M,fun r r' I M h3 S cs x q=>h.mono r r' I M h3 S cs (f x) q,fun R hR up r hr h3 S cs x q=>h.cont R hR up r hr h3 S cs (f x) q⟩
def ZF(α:Type)(K:Nat):Rp α where
 sz:=K
 agg:=true
 rc:=fun _ _ _=>False
 mono:=fun _ h=>h
 len:=fun h=>h.elim
 one:=fun h=>h.elim
 sc:=fun h=>by cases h
def rIt{α:Type}(F:Rp α->Rp α)(K:Nat):Nat->Rp α
 |0=>ZF α K
 |n+1=>F (rIt F K n)
def HA{α:Type}{F:Rp α->Rp α}{K:Nat}(h:RM K F)(h0:(F (ZF α K)).sz=K): ∀n,(rIt F K n).sz=K
 |0=>rfl
 |n+1=>(h.sz _ _ (HA h h0 n) rfl).trans h0
def ZC{α:Type}{F:Rp α->Rp α}{K:Nat}(h:RM K F)(h0:(F (ZF α K)).sz=K): ∀n S cs x,(rIt F K n).rc S cs x->(rIt F K (n+1)).rc S cs x
 |0,_,_,_,q=>q.elim
 |n+1,S,cs,x,q=>h.mono _ _ (HA h h0 n) (HA h h0 (n+1)) (ZC h h0 n) S cs x q
def ZE{α:Type}{F:Rp α->Rp α}{K:Nat}(h:RM K F)(h0:(F (ZF α K)).sz=K):Rp α where
 sz:=K
 agg:=true
 rc:=fun S cs x=> ∃n,(rIt F K n).rc S cs x
 mono:=fun hle ⟨n,q⟩=>⟨n,(rIt F K n).mono hle q⟩
 len:=fun⟨n,q⟩=>((rIt F K n).len q).trans (HA h h0 n)
 one:=fun⟨n,q⟩=>(rIt F K n).one q
 sc:=fun h=>by cases h
def ZD{F:Rp α->Rp α}(h:RM K F)(h0:(F (ZF α K)).sz=K)(S:SH)(cs:List Value)(x:α):(ZE h h0).rc S cs x↔(F (ZE h h0)).rc S cs x:=by
 constructor
 ·rintro⟨n,q⟩
  cases n with
  |zero=>exact q.elim
  |succ n=>exact h.mono _ (ZE h h0) (HA h h0 n) rfl (fun _ _ _ q=>⟨n,q⟩) S cs x q
 ·intro q;obtain⟨n,hn⟩:=h.cont (rIt F K) (HA h h0) (ZC h h0) (ZE h h0) rfl (fun _ _ _ q=>q) S cs x q;exact⟨n+1,hn n (kG n)⟩
def Qm{r' :Rp α}{q:Rp β}{get:α->β}(e: ∀S cs x,r.rc S cs x↔r'.rc S cs x)(h:ro r' off q get):ro r off q get:=fun S cs x k=>h S cs x ((e S cs x).1 k)
variable{y:α}
def KX{r' :Rp α}{q:Rp β}{set:α->β->α}(e: ∀S cs x,r.rc S cs x↔r'.rc S cs x)(h:k7 r' off q set):k7 r off q set:=fun S cs x ds y k k2=>(e _ _ _).2 (h S cs x ds y ((e S cs x).1 k) k2)
def CA(n:FuncId)(b:Nat):Value:= .func (.func n) #[] #[aE b 0]
def Js(n:FuncId)(b:Nat):Ty where
 p:=fun S v=>v=aE b 0/\ ∃c E fr,S b=some (.cells c E fr)/\(c.toList.drop 0).take 1=[CA n b]
 mono:=fun h ⟨e,c,E,fr,I,M⟩=>by
  obtain⟨o',h3,h4⟩:=h _ _ I;obtain⟨c',rfl,h5⟩:=Gw h4 (by rw [M];rfl);exact⟨e,c',E,fr,h3,by rw [h5];exact M⟩
variable{N:Fr}{O:List OE}{after:Array Edge}{ats:Array TypeId}{dst:Option Tmp}{g:Option (Nat×Bool)}{pos:String}{ty:TypeId}{w:World}
section
def ZU{x:Operand}(V:be E.N G x (tV (aE b 0))):cu E O G ⟨dst,.makeFunc (.func n) #[] #[x],ty,pos,after,g⟩ (tV (CA n b)):=
 .of_pure fun a w S _ _ hf=>⟨CA n b,by
  have I:a.eval x=aE b 0:=V S a hf;simp [execOp,Instr.makeFunc,I,CA],rfl⟩
def hSV{x:Operand}(h:be N G x (tV (CA n b))):be N G x (Q rV (CA n b)):=fun S a hf=>xN.2 ⟨h S a hf,rfl⟩
def LE{U:TypeId}{bytes:Nat}{z:List Value}{p:Operand}(ti:TI E.P U 1 bytes false z)(hp:be E.N G p (Js n b)):cu E O G ⟨dst,.load U p,ty,pos,after,g⟩ (tV (CA n b)):=
  (gO (r:=rV) (x:=CA n b) ti rfl rfl (fun S a hf=>by
    obtain⟨e,c,E,fr,I,M⟩:=hp S a hf;exact⟨b,0,c,E,fr,e,I,M,rfl⟩)).imp fun _ _ h=>(xN.1 h).1
def LF{fo cp:Operand}{xs:List Operand}{ts:List Ty}{t:Ty}(hf:be E.N G fo (tV (CA n b)))(hcp:be E.N G cp (Js n b))(hc:ak E.P n=true)(hs:bZ E.P n (ts++[Js n b]) t)(V:lI E.N G xs ts):
  cu E O G ⟨dst,.call ⟨.value fo,xs.toArray,ats⟩,ty,pos,after,g⟩ t:=fun a w S hS _ hF=>by
 have e:a.eval fo=CA n b:=hf S a hF;have hr:(execOp a.eval ⟨dst,.call ⟨.value fo,xs.toArray,ats⟩,ty,pos,after,g⟩).run E.P w= .ok (.enter n ((xs.map a.eval).toArray++ #[aE b 0])) w:=by
  simp [execOp,resolve,e,CA,Deferred.ofValue,invoke,gC hc]
 refine⟨fun c h=>(by cases h),?_⟩;rw [hr];have e2:(xs.map a.eval).toArray++ #[aE b 0]=((xs.map a.eval)++[aE b 0]).toArray:=by simp
 rw [e2];have H:(Js n b).p S (aE b 0):=by
  have:=hcp S a hF;exact⟨rfl,this.2⟩
 have hb2:B5 S [Js n b] [aE b 0]:=⟨H,trivial⟩;exact(hs w S _ hS ((V.tys hF).append hb2)).mono fun e w' ⟨v,S',he,I,M,h3⟩=>⟨v,he,v,S',rfl,I,M,h3⟩
end
variable{tD:Exit->Act->World->Prop}{aj:TypeId}{ops:Array Oper}{rest:List Oper}
section
variable{c:Code}{e:Exit}
def St.settleS{a:Act}(h:St E (bx rV aj b (CA n b)::O) G a w S)(hk:cH G k=some (tV (aE b 0))): ∃S',St E O ((k,Js n b)::G) a w S' :=by
 obtain⟨⟨hn,cur,h3,h4⟩,_⟩:=h.own.1;obtain⟨h8,hle,_,_⟩:=Bg h rfl h3 (yX _) hn;have hv:a.tmps.getD k undef=aE b 0:=h.facts.at_ k _ hk;refine⟨_,h8.cons ⟨hv,cur,aj,(0,0),by simp [SH.set],?_⟩⟩;rw [h4.1];rfl
def Vs(k:Nat)(hk:cH G k=some (tV (aE b 0)))(h:RG E ops tD rest O ((k,Js n b)::G)):RG E ops tD rest (bx rV aj b (CA n b)::O) G:=
 fun a w _ st=>let⟨S',st'⟩:=st.settleS hk;h a w S' st'
end
def alx(v:Value):Prop:= ∃fid fst cap,v= .func fid fst cap
def zw(P:Program){α β:Type}(args:α->List Ty)(res:β->Ty)(f:α->Option β):Ty where
 p:=fun S v=>alx v/\(tFn P args res f).p S v
 mono:=fun h k=>⟨k.1,(tFn P args res f).mono h k.2⟩
variable{P:Program}
def qq{args:α->List Ty}{res:β->Ty}{f:α->Option β}{x:Operand}(h:be N G x (eD P args res f)):be N G x (zw P args res f):=fun S a hf=>
 ⟨by obtain⟨fid,cap,e,_⟩:=h S a hf;exact⟨_,_,_,e⟩,agx h S a hf⟩
def tFo(P:Program){α β:Type}(args:α->List Ty)(res:β->Ty)(o:Option (α->Option β)):Ty where
 p:=fun S v=>match o with|some f=>(zw P args res f).p S v|none=>v= .nilFunc
 mono:=fun h k=>by
  cases o with
  |none=>exact k
  |some f=>exact(zw P args res f).mono h k
variable{d:Array α}
section
variable{κ:Type} [DecidableEq κ]{kv:κ->Value}{k:κ}{t kt et:TypeId}{x i:Operand}{dst:Option Nat}{φ:Type}{args:α->List Ty}{res:β->Ty}{F:φ->α->Option β}
def CM{m:List (κ×φ)}(hm:E.P.underlying t=some (.map kt et))(hk:MQ E.P kt kv)(hz:ZV E.P et .nilFunc)(V:be E.N G x (KN (fun y=>zw E.P args res (F y)) kv m))(hi:Pg E.N G i (kv k)):
  cu E O G ⟨dst,.lookup t x i false,ty,pos,after,g⟩ (tFo E.P args res ((m5 m k).map F)):= .of_pure fun a w S hs ho hf=>by
 obtain⟨b,es,clock,I,h3,h4⟩:=V S a hf;obtain⟨o',h5,h6⟩:=hs b _ h3;have h7:o' = .map es clock:=h6;subst h7;obtain⟨q,hq,hd,hinj⟩:=hk;have M:a.eval i=kv k:=hi S a hf;obtain⟨_,_,_,h8⟩:=wz hd hinj (k:=k) 0 (abN (w:=w) h4);rcases h8 with⟨g1,g2⟩|⟨y,o,e,j,g1,g2,g3,g4,g5⟩
 ·refine⟨.nilFunc,by simp [execOp,I,M,q7 hm hq (hd k) h5 hz g2],?_⟩;rw [g1];rfl
 ·refine⟨e.val,by simp [execOp,I,M,q7 hm hq (hd k) h5 hz g4],?_⟩;rw [g1];exact g3.2
def hFo{o:Option φ}(h:be N G x (tFo P args res (o.map F))):be N G x (tFn P args res (fun y=>(o.bind fun f=>F f y))):=fun S a hf=>by
 have:=h S a hf
 cases o with
 |none=>exact aca
 |some f=>exact this.2
def ZT{o:Option (α->Option β)}{xt yt:TypeId}(J: ∃ps rs vd,E.P.underlying xt=some (.func ps rs vd))(V:be E.N G x (tFo E.P args res o)):cu E O G ⟨dst,.binOp .neq xt x (.const .nilFunc) yt,ty,pos,after,g⟩ (Q rB o.isSome):=
 .of_pure fun a w S _ _ hf=>by
  have I:=V S a hf;obtain⟨ps,rs,vd,hu⟩:=J;have hcn:a.eval (.const .nilFunc)= .nilFunc:=rfl
  cases o with
  |none=>
   have M:a.eval x= .nilFunc:=I;have h3:(Op.equal xt .nilFunc .nilFunc).run E.P w= .ok true w:=Bh fun d=>by simp [Op.equalIn,oS hu]
   exact⟨.bool false,by simp [execOp,M,hcn,eqGuard,binOp,h3],kY.2 rfl⟩
  |some f=>
   obtain⟨⟨fid,fst,cap,M⟩,_⟩:=I;have h3:(Op.equal xt (.func fid fst cap) .nilFunc).run E.P w= .ok false w:=Bh fun d=>by simp [Op.equalIn,oS hu]
   exact⟨.bool true,by simp [execOp,M,hcn,eqGuard,binOp,h3],kY.2 rfl⟩
def Yg{o:Option φ}{xt yt:TypeId}(J: ∃ps rs vd,E.P.underlying xt=some (.func ps rs vd))(V:be E.N G x (tFo E.P args res (o.map F))):cu E O G ⟨dst,.binOp .neq xt x (.const .nilFunc) yt,ty,pos,after,g⟩ (Q rB o.isSome):=by
 have h:=ZT (O:=O) (dst:=dst) (yt:=yt) (ty:=ty) (pos:=pos) (after:=after) (g:=g) J V
 rwa [Option.isSome_map]at h
end
abbrev ta{α:Type}(x:List (List α))(i:Nat):List α:=(x[i]?).getD []
def Md{n i:Nat}(hi:i<n):ro (tE rV n) i rV (fun x=>(x[i]?).getD undef):=fun S cs x h=>by
 have hlt:i<x.length:=by rw [h.1];exact hi
 have I:=Br h.2 (qg hlt);rw [show rV.sz=1 from rfl,Nat.mul_one]at I;show rV.rc S (List.take rV.sz (List.drop i cs)) ((x[i]?).getD undef);rw [show rV.sz=1 from rfl,qg hlt];exact I
def aiO{S:SH}: ∀{vs cs:List Value},xX rV S cs vs->cs=vs
 |[],_,h=>h
 |v::vs,_,⟨a,b,e,I,M⟩=>by
  rw [e,I.1,aiO M];rfl
def ail{α:Type}(r:Rp α)(S:SH):List Value->List α->Prop
 |[],[]=>True
 |v::vs,x::xs=>r.rc S [v] x/\ail r S vs xs
 |_,_=>False
def Tv{α:Type}{r:Rp α}{S:SH}: ∀{vs:List Value} {xs:List α},ail r S vs xs->xX r S vs xs/\xs.length=vs.length
 |[],[],_=>⟨rfl,rfl⟩
 |v::vs,x::xs,⟨I,M⟩=>by
  obtain⟨g1,g2⟩:=Tv M;exact⟨⟨[v],vs,rfl,I,g1⟩,by simp [g2]⟩
def aij{n:Nat}{cs vs:List Value}(h:(tE rV n).rc S cs vs)(k:ail r S vs xs):(tE r n).rc S cs xs:=by
 obtain⟨I,M⟩:=h;obtain⟨g1,g2⟩:=Tv k;rw [aiO M];exact⟨by rw [g2,I],g1⟩
variable{l:Option Nat}
section
variable{c:Code}
def Ve{l:List α}{i:Nat}{e:α}(h:xs.drop i=e::l):(i:Int)<(xs.length:Int):=by
 have:=congrArg List.length h;simp at this;omega
def Ae{mm:Bool}{U:TypeId}{n:Nat}{x ix:Operand}{t e:TypeId}{k:IntKind}{i:Int}{sz bytes:Nat}{agg:Bool}{z:List Value}(J:E.P.underlying t=some (.slice e))(ti:TI E.P e sz bytes agg z)(hm:pw mm r U l cap xs∈O)(V:be E.N G x (tV (aY l cap n)))(hi:be E.N G ix (Q (rI k) i))(hy:cO xs i=some y)(hlt:i<(n:Int)):
  cu E O G ⟨dst,.indexAddr t x ix,ty,pos,after,g⟩ (tV (nc l (i.toNat*sz+0))):=
 .of_pure fun a w S _ ho hf=>by
  have I:a.eval x=aY l cap n:=V S a hf;have h3:a.eval ix= .int k i:=d7.1 (hi S a hf);obtain⟨h0,hy'⟩:=m7 hy;obtain⟨b,cur,rfl,_⟩:=wZ (ho.mem _ hm).1 hy';refine⟨_,?_,rfl⟩;have hc:0<=i/\i<(n:Int):=⟨h0,hlt⟩;simp [execOp,I,h3,aY,Instr.indexAt,asIntOf,oS J,hc,ti.sizeOf,nf,nc,aE]
def hBc{b:Bool}:be N G (.const (.bool b)) (Q rB b):=hB
end
open Go.Sort Go.Shelf
variable{os:Array Obj}
def GJ(h:k<w.heap.size):(grow w os).heap[k]? =w.heap[k]? :=by
 unfold grow;exact Array.getElem?_append_left h
variable{enc:α->Value}
def SO [Inhabited α](h:k≠b):(putRow enc w b off d).heap[k]? =w.heap[k]? :=by
 unfold putRow mapBlock;rw [Array.getElem?_modify,aR (Ne.symm h)]
def vG [Inhabited α]{m:Nat}(hk:k<w.heap.size)(h:k≠b):(sortWorld enc w b off m d os).heap[k]? =w.heap[k]? :=by
 unfold sortWorld;rw [GJ (by rw [size_putRow];exact hk),SO h];rfl
def GI [Inhabited α]{m:Nat}{c:Array Value}{fr:Nat×Nat}(h:w.heap[b]? =some (.cells c aj fr)):
  (sortWorld enc w b off m d os).heap[b]? =some (.cells (putCells enc off d c) aj fr):=by
 have hlt:=(Ba.1 h).1;unfold sortWorld;rw [GJ (by rw [size_putRow];exact hlt)];unfold putRow mapBlock;rw [Array.getElem?_modify,bz rfl];show Option.map _ (w.heap[b]?)=_;rw [h];rfl
def EF [Inhabited α]{c:Array Value}(h:d.size<=c.size):(putCells enc 0 d c).toList.take d.size=d.toList.map enc:=by
 apply Kq;intro k;by_cases hk:k<d.size
 ·rw [D1 hk];have hc:k<c.size:=by omega
  simp [putCells,hc,hk]
 ·rw [Ki (by simp;omega),Ki (by simp;omega)]
section
variable{d:Nat}
def t6{n m:Nat}(hl:m=n)(s:Nat)(hs:cH G s=some (tV (aY l cap n)))(k:RG E ops tD rest O ((s,tV (aY l cap m))::G)):RG E ops tD rest O G:=by
 subst hl;exact fun a w S st=>k a w S ⟨st.ext,st.sat,st.own,⟨st.facts.size,st.facts.defers,fun j t h=>by
  unfold cH at h;by_cases H:Nat.beq s j=true
  ·rw [H]at h;have:=zp H;subst this;have e:tV (aY l cap m)=t:=by simpa using h
   rw [<-e];exact st.facts.at_ s _ hs
  ·rw [yE]at H;rw [H]at h;exact st.facts.at_ j t h⟩⟩
end
def Af{α:Type}(cmp:α×α->Option Int)(x y:α):Bool:=
 match cmp (x,y)with
 |some c=>decide (c<0)
 |none=>false
def Qg{α:Type}(lt:α->α->Bool)(x:α):List α->List α
 |[]=>[x]
 |y::ys=>if lt y x then y::Qg lt x ys else x::y::ys
def EH{α:Type}(lt:α->α->Bool):List α->List α
 |[]=>[]
 |x::xs=>Qg lt x (EH lt xs)
structure FJ{α:Type}(cmp:α×α->Option Int)(xs:List α):Prop where
 len:xs.length<=1099511627776
 tot: ∀x∈xs,∀y∈xs,(cmp (x,y)).isSome=true
 irr: ∀x∈xs,Af cmp x x=false
 tr: ∀x∈xs,∀y∈xs,∀z∈xs,Af cmp x y=true->Af cmp y z=true->Af cmp x z=true
 anti: ∀x∈xs,∀y∈xs,Af cmp x y=false->Af cmp y x=false->x=y
def aar{α:Type} [DecidableEq α](cmp:α×α->Option Int)(xs:List α):Bool:=
 decide (xs.length<=1099511627776)&&xs.all (fun x=>xs.all fun y=>(cmp (x,y)).isSome)&&xs.all (fun x=> !Af cmp x x)&&
  xs.all (fun x=>xs.all fun y=>xs.all fun z=> !(Af cmp x y&&Af cmp y z)||Af cmp x z)&&xs.all (fun x=>xs.all fun y=>Af cmp x y||Af cmp y x||decide (x=y))
variable{cmp:α×α->Option Int}
def SP [DecidableEq α]:aar cmp xs=true↔FJ cmp xs:=by
 unfold aar;simp only [iX,mN,xv,Hh,nE,Bool.and_eq_false_imp];constructor
 ·rintro⟨⟨⟨⟨I,M⟩,h3⟩,h4⟩,h5⟩;refine⟨I,M,h3,fun x V y hy z hz a b=>?_,fun x V y hy a b=>?_⟩
  ·rcases h4 x V y hy z hz with h|h
   ·rw [h a]at b;cases b
   ·exact h
  ·rcases h5 x V y hy with(h|h)|h
   ·rw [h]at a;cases a
   ·rw [h]at b;cases b
   ·exact h
 ·rintro⟨I,M,h3,h4,h5⟩;refine⟨⟨⟨⟨I,M⟩,h3⟩,fun x V y hy z hz=>?_⟩,fun x V y hy=>?_⟩
  ·cases h6:Af cmp x y with
   |false=>exact .inl (fun h=>by cases h)
   |true=>
    cases h7:Af cmp y z with
    |false=>exact .inl (fun _=>rfl)
    |true=>exact .inr (h4 x V y hy z hz h6 h7)
  ·cases h6:Af cmp x y with
   |true=>exact .inl (.inl rfl)
   |false=>
    cases h7:Af cmp y x with
    |true=>exact .inl (.inr rfl)
    |false=>exact .inr (h5 x V y hy h6 h7)
def Ey{α:Type} [DecidableEq α](cmp:α×α->Option Int)(xs:List α):Option (List α):=if aar cmp xs then some (EH (Af cmp) xs)else none
variable{ys:List α}
def Ua [DecidableEq α](h:Ey cmp xs=some ys):FJ cmp xs/\ys=EH (Af cmp) xs:=by
 unfold Ey at h;split at h
 ·exact⟨SP.1 (by assumption),by simpa using h.symm⟩
 ·cases h
def KR [DecidableEq α](h:FJ cmp xs):Ey cmp xs=some (EH (Af cmp) xs):=bz (SP.2 h)
def sortI(xs:List Int):List Int:=xs.mergeSort fun x y=>decide (x<=y)
def Dl(xs:List Int):(sortI xs).length=xs.length:=by unfold sortI;simp
def OF(x:Int):List Int->List Int
 |[]=>[x]
 |y::l=>if x<=y then x::y::l else y::OF x l
def Yt:List Int->List Int
 |[]=>[]
 |x::l=>OF x (Yt l)
def Fn(x:Int): ∀l:List Int,(OF x l).Perm (x::l)
 |[]=> .refl _
 |y::l=>by
  unfold OF;split
  ·exact .refl _
  ·exact((Fn x l).cons y).trans (.swap x y l)
def OD: ∀l:List Int,(Yt l).Perm l
 |[]=> .refl _
 |x::l=>(Fn x (Yt l)).trans ((OD l).cons x)
def SM(x:Int): ∀l:List Int,l.Pairwise (· <= ·)->(OF x l).Pairwise (· <= ·)
 |[],_=>List.pairwise_singleton _ _
 |y::l,h=>by
  have hy: ∀z∈l,y<=z:=fun z hz=>List.rel_of_pairwise_cons h hz;unfold OF;split
  ·rename_i V;refine List.Pairwise.cons (fun z hz=>?_) h;rcases iW.1 hz with rfl|hz
   ·exact V
   ·exact Int.le_trans V (hy z hz)
  ·rename_i V;refine List.Pairwise.cons (fun z hz=>?_) (SM x l (List.Pairwise.of_cons h));rcases iW.1 ((Fn x l).mem_iff.1 hz)with rfl|hz
   ·omega
   ·exact hy z hz
def Wj: ∀l:List Int,(Yt l).Pairwise (· <= ·)
 |[]=> .nil
 |x::l=>SM x _ (Wj l)
def acL(l:List Int):Yt l=sortI l:=by
 refine List.Perm.eq_of_pairwise (le:=(· <= ·)) (fun a b _ _ I M=>Int.le_antisymm I M) (Wj l) ?_ ((OD l).trans (List.mergeSort_perm l _).symm);have:=List.pairwise_mergeSort (le:=fun x y:Int=>decide (x<=y)) (fun a b c I M=>by simp at*;omega) (fun a b=>by simp;omega) l;exact this.imp fun h=>by simpa using h
def KQ(xs:List Int):Option (List Int):=if xs.length<=68719476736 then some (Yt xs)else none
def Ho(xs:List Int):KQ xs=if xs.length<=68719476736 then some (sortI xs)else none:=by
 unfold KQ;rw [acL]
def RB{xs ys:List Int}(h:KQ xs=some ys):xs.length<=68719476736/\ys=sortI xs:=by
 rw [Ho]at h;split at h
 ·exact⟨by assumption,by simpa using h.symm⟩
 ·cases h
def HP{α:Type}(lt:α->α->Bool)(x:α): ∀l:List α,(Qg lt x l).Perm (x::l)
 |[]=> .refl _
 |y::ys=>by
  unfold Qg;split
  ·exact((HP lt x ys).cons y).trans (.swap ..)
  ·exact .refl _
def y8{α:Type}(lt:α->α->Bool): ∀l:List α,(EH lt l).Perm l
 |[]=> .refl _
 |x::xs=>(HP lt x _).trans ((y8 lt xs).cons x)
def FJ.ntr(h:FJ cmp xs){x z:α}(V:x∈xs)(hy:y∈xs)(hz:z∈xs)(I:Af cmp x y=false)(M:Af cmp y z=false):Af cmp x z=false:=by
 cases h3:Af cmp x z with
 |false=>rfl
 |true=>
  cases h4:Af cmp y x with
  |true=>rw [h.tr y hy x V z hz h4 h3]at M;cases M
  |false=>
   have:=h.anti x V y hy I h4;subst this;rw [h3]at M;cases M
def FJ.asym(h:FJ cmp xs){x:α}(V:x∈xs)(hy:y∈xs)(I:Af cmp x y=true):Af cmp y x=false:=by
 cases h3:Af cmp y x with
 |false=>rfl
 |true=>have:=h.tr x V y hy x V I h3;rw [h.irr x V]at this;cases this
def IU{α:Type}{cmp:α×α->Option Int}{xs:List α}(h:FJ cmp xs){x:α}(V:x∈xs): ∀l:List α,(∀y∈l,y∈xs)->l.Pairwise (fun a b=>Af cmp b a=false)->(Qg (Af cmp) x l).Pairwise (fun a b=>Af cmp b a=false)
 |[],_,_=>List.pairwise_singleton _ _
 |y::ys,hm,hp=>by
  have hy:=hm y (md ..);rw [yF]at hp;unfold Qg;split
  ·rename_i hlt;rw [yF];refine⟨fun z hz=>?_,IU h V ys (fun z hz=>hm z (ma _ hz)) hp.2⟩;rcases iW.1 ((HP _ x ys).mem_iff.1 hz)with e|e
   ·subst e;exact h.asym hy V hlt
   ·exact hp.1 z e
  ·rename_i hlt;rw [yE]at hlt;refine yF.2 ⟨fun z hz=>?_,yF.2 hp⟩;rcases iW.1 hz with e|e
   ·subst e;exact hlt
   ·exact h.ntr (hm z hz) hy V (hp.1 z e) hlt
def Bx{α:Type}{cmp:α×α->Option Int}{xs:List α}(h:FJ cmp xs): ∀l:List α,(∀y∈l,y∈xs)->(EH (Af cmp) l).Pairwise (fun a b=>Af cmp b a=false)
 |[],_=>List.Pairwise.nil
 |x::ys,hm=>IU h (hm x (md ..)) _ (fun y hy=>hm y (ma _ ((y8 _ ys).mem_iff.1 hy))) (Bx h ys fun y hy=>hm y (ma _ hy))
def VU{k:IntKind}{S:SH}: ∀{xs:List Int} {cs:List Value},xX (rI k) S cs xs->cs=xs.map (Value.int k)
 |[],cs,h=>by rw [show cs=[]from h];rfl
 |x::xs,cs,⟨a,b,e,I,M⟩=>by
  rw [e,show a=[.int k x]from I,VU M];rfl
def Wi{k:IntKind}{S:SH}: ∀xs:List Int,xX (rI k) S (xs.map (Value.int k)) xs
 |[]=>rfl
 |x::xs=>⟨[.int k x],_,rfl,rfl,Wi xs⟩
variable{ρ:Ren}
def XW(L:Lays.n189 P ρ){xs:List Int}(hlen0:xs.length<=68719476736)(hs:nC w S)(h:(eV (rI .i64) aj l cap xs).p w S):
  Calls P (ρ.f 189) #[aY l cap xs.length] w fun e w' =>e= .returned (.tuple #[])/\kh (fun k=>l=some k) w S w' S/\nC w' S/\(eV (rI .i64) aj l cap (sortI xs)).p w' S:=by
 cases l with
 |none=>
  have V:xs=[]:=Ao (by obtain⟨_,h4,_⟩:=h;exact h4.1);subst V;exact(Any.slices_Sort_int_none (P:=P) (ρ:=ρ) L none 0 w).mono fun _ _ ⟨I,M⟩=>by subst M;exact⟨I,kh.refl _ _ _,hs,by simpa [sortI] using h⟩
 |some b=>
  obtain⟨cells0,⟨cur,H,hle,hmax,hcs,hct⟩,hrc,hno0⟩:=h;have hno:S b=none:=hno0 b rfl;subst hct;have I:(rI .i64).sz=1:=rfl;rw [I,Nat.mul_one]at hcs hrc;have hcells:=VU hrc;have hH:Holds (Value.int .i64) w b 0 xs.toArray:=by
   intro j hj;have hj' :j<xs.length:=by simpa using hj
   have hc:cur[j]? =some (Value.int .i64 xs.toArray[j]!):=by
    have:(cur.toList.take xs.length)[j]? =some (Value.int .i64 xs.toArray[j]!):=by
     rw [hcells,Co,getElem!_pos xs.toArray j hj];simp [hj']
    rw [D1 (by omega)]at this;simpa using this
   refine⟨by simp [World.cell?,H,hc],?_⟩;simp [World.frozen?,H]
  have hblk:=(Ba.1 H).1;have hcall:=calls_of_every_depth fun D=>AnyS.slices_Sort_int_alone (P:=P) (ρ:=ρ) L D b 0 cap xs w hH hblk (by omega);refine hcall.mono fun e w' ⟨he,n,os,hw⟩=>?_;have hlen:=Dl xs;have hw2:w' =sortWorld (Value.int .i64) w b 0 n (sortI xs).toArray os:=hw;subst hw2;refine⟨he,⟨rfl,rfl,rfl,Nat.le_add_right _ _,?_,fun k hk hkb=>vG hk (fun e=>hkb (by rw [e])),SH.le_refl _,fun _ _ _=>rfl⟩,hs.same fun k o hk=>?_,⟨_,⟨_,GI H,by omega,hmax,?_,rfl⟩,?_,hno0⟩⟩
  ·unfold sortWorld;rw [size_grow,size_putRow];exact Nat.le_add_right _ _
  ·have hkb:k≠b:=fun e=>by subst e;rw [hno]at hk;cases hk
   exact vG (hs.lt hk) hkb
  ·simp [putCells,I,hcs]
  ·have e1:(sortI xs).length*(rI .i64).sz=(sortI xs).toArray.size:=by rw [I];simp
   rw [e1,EF (by simp;omega)];exact Wi (sortI xs)
section
variable{d:Nat}
def abG(L:Lays.n189 E.P ρ){f:FuncId}(hf:ρ.f 189=f)(hc:ak E.P f=true){n:Nat}{xs ys:List Int}{x:Operand}(hy:KQ xs=some ys)(V:be E.N G x (tV (aY l cap n)))(hn:n=xs.length)(hd:Nat.blt d E.N.n=true)(k:ys.length=n->RG E ops tD rest (eV (rI .i64) aj l cap ys::O) ((d,Bf)::G)):RG E ops tD (⟨some d,.call ⟨.value (.func f),#[x],ats⟩,ty,pos,after,none⟩::rest) (eV (rI .i64) aj l cap xs::O) G:= .of rfl fun a w S st=>by
 obtain⟨hl0,rfl⟩:=RB hy;subst hf;subst hn;have I:a.eval x=aY l cap xs.length:=V S a st.facts;have hr:(execOp a.eval ⟨some d,.call ⟨.value (.func (ρ.f 189)),#[x],ats⟩,ty,pos,after,none⟩).run E.P w= .ok (.enter (ρ.f 189) #[aY l cap xs.length]) w:=by
  have e0:a.eval (.func (ρ.f 189))= .func (.func (ρ.f 189)) #[] #[]:=rfl;simp [execOp,resolve,e0,I,Deferred.ofValue,invoke,gC hc]
 refine⟨fun c h=>(by cases h),?_⟩;rw [hr];refine(XW L hl0 st.sat st.own.1.1).mono fun e w' ⟨he,hext,hsat,hp⟩=>⟨_,he,?_⟩;have hfp: ∀g∈O,∀b,g.fp b-> ¬(l=some b):=fun g hg b H hl=>st.own.2.1 g hg b hl H;refine k (Dl xs) _ _ S ⟨st.ext.step hext (fun c hc=>st.own.1.2 c hc),hsat,⟨⟨hp,st.own.1.2⟩,st.own.2.1,st.own.2.2.ext hext hfp⟩,?_⟩;exact(st.facts.mono hext.keep).put hd trivial
end
structure XL{α:Type}(r:Rp α)(S:SH)(XS:List α):Type where
 v:Value
 x:α
 h:r.rc S [v] x
 m:x∈XS
def ajn{α:Type}{r:Rp α}(I:r.sz=1){S:SH}{XS:List α}: ∀{xs:List α} {cs:List Value},xX r S cs xs->(∀x∈xs,x∈XS)-> ∃d:List (XL r S XS),d.map XL.v=cs/\d.map XL.x=xs
 |[],cs,h,_=>⟨[],by rw [show cs=[]from h];rfl,rfl⟩
 |x::xs,cs,⟨a,b,e,M,h3⟩,hm=>by
  obtain⟨d,e1,e2⟩:=ajn I h3 fun y hy=>hm y (ma _ hy);have hl:=r.len M;rw [I]at hl;obtain⟨v,rfl⟩:=VC.1 hl;exact⟨⟨v,x,M,hm x (md ..)⟩::d,by rw [e,va,e1];rfl,by rw [va,e2]⟩
def OS{α:Type}{r:Rp α}{S:SH}{XS:List α}: ∀d:List (XL r S XS),xX r S (d.map XL.v) (d.map XL.x)
 |[]=>rfl
 |p::d=>⟨[p.v],_,rfl,p.h,OS d⟩
def Yz{w' :World}{S' :SH}(h:kh vz w S w' S'): ∃q os,w' =grow (w.drewN q) os:=by
 refine⟨w'.drawn-w.drawn,w'.heap.extract w.heap.size w'.heap.size,?_⟩;obtain⟨hp,t,dr,os,out⟩:=w';have I:hp=w.heap++hp.extract w.heap.size hp.size:=by
  apply Array.ext_getElem?;intro k;have hs:=h.size;simp only at hs;by_cases hk:k<w.heap.size
  ·rw [Array.getElem?_append_left hk];exact h.heap k hk (fun h=>h)
  ·rw [Array.getElem?_append_right (by omega),Array.getElem?_extract];split
   ·congr 1;omega
   ·rename_i hlt;rw [Array.getElem?_eq_none];omega
 have M:=h.os;have h3:=h.tape;have h4:=h.output;have h5:=h.drawn;simp only at M h3 h4 h5;subst M h3 h4;unfold grow World.drewN;simp only;congr 1;omega
def Zr(L:SlLaysF.n6 P ρ) [DecidableEq α](hag:r.agg=false){fv:Value}(hs:nC w S)(h:(eV r aj l cap xs).p w S)(hfv:(eD P (fun p:α×α=>[Q r p.1,Q r p.2]) (Q (rI .i64)) cmp).p S fv)(hy:Ey cmp xs=some ys):
  Calls P (ρ.f 6) #[aY l cap xs.length,fv] w fun e w' =>e= .returned (.tuple #[])/\kh (fun k=>l=some k) w S w' S/\nC w' S/\(eV r aj l cap ys).p w' S/\ys.length=xs.length:=by
 obtain⟨hG,hys⟩:=Ua hy;have hperm:ys.Perm xs:=by rw [hys];exact y8 _ xs
 have hlen:=hperm.length_eq;have none' :xs=[]->Calls P (ρ.f 6) #[aY l cap xs.length,fv] w fun e w' =>e= .returned (.tuple #[])/\kh (fun k=>l=some k) w S w' S/\nC w' S/\(eV r aj l cap ys).p w' S/\ys.length=xs.length:=by
  intro V;subst V;have e:ys=[]:=by rw [hys];rfl
  subst e
  cases l with
  |none=>exact(AnyF.slices_SortFunc_none (P:=P) (ρ:=ρ) {L with} none 0 fv w).mono fun _ _ ⟨I,M⟩=>by subst M;exact⟨I,kh.refl _ _ _,hs,h,rfl⟩
  |some b=>exact(AnyF.slices_SortFunc_none (P:=P) (ρ:=ρ) {L with} (some ⟨b,0,none⟩) cap fv w).mono fun _ _ ⟨I,M⟩=>by subst M;exact⟨I,kh.refl _ _ _,hs,h,rfl⟩
 cases l with
 |none=>exact none' (Ao (by obtain⟨_,h4,_⟩:=h;exact h4.1))
 |some b=>
  obtain⟨cells0,⟨cur,H,hle,hmax,hcs,hct⟩,hrc,hno0⟩:=h;have hno:S b=none:=hno0 b rfl;subst hct;have I:=r.sc hag;rw [I,Nat.mul_one]at hcs hrc;obtain⟨d,hd1,hd2⟩:=ajn I hrc (fun x V=>V);have hdl:d.length=xs.length:=by have:=congrArg List.length hd2;simpa using this
  cases hxs:xs with
  |nil=>rw [<-hxs];exact none' hxs
  |cons x0 xs0=>
  rw [<-hxs];have hne:0<d.length:=by rw [hdl,hxs];simp
  haveI:Inhabited (XL r S xs):=⟨d[0]⟩;obtain⟨g,cb,rfl,hcal,hsp⟩:=hfv
  let enc:XL r S xs->Value:=XL.v
  let cf:XL r S xs->XL r S xs->Int:=fun p q=>(cmp (p.x,q.x)).getD 0
  have hcf: ∀p q,cmp (p.x,q.x)=some (cf p q):=fun p q=>by
   have:=hG.tot _ p.m _ q.m;obtain⟨c,hc⟩:=Rn.1 this;show _=some ((cmp (p.x,q.x)).getD 0);rw [hc];rfl
  have hlt: ∀p q,ltOf cf p q=Af cmp p.x q.x:=fun p q=>by
   unfold ltOf Af;rw [hcf p q]
  have hO:SWO (ltOf cf):=⟨fun x=>by rw [hlt];exact hG.irr _ x.m,fun x y z a b=>by rw [hlt]at*;exact hG.tr _ x.m _ y.m _ z.m a b,fun x y z a b=>by rw [hlt]at*;exact hG.ntr x.m y.m z.m a b⟩;have hblk:=(Ba.1 H).1;have hcmp:CmpLays1 P g cb enc cf b 0 d.toArray.size w:=by
   intro m os dk hdk x y;have hsat:nC (sortWorld enc w b 0 m dk os) S:=hs.same fun k o hk=>by
    have hkb:k≠b:=fun e=>by subst e;rw [hno]at hk;cases hk
    exact vG (hs.lt hk) hkb
   have:=hsp (x.x,y.x) _ (hcf x y) _ S [x.v,y.v] (SH.le_refl _) hsat ⟨⟨_,by unfold Rp.val;rw [hag];rfl,x.h⟩,⟨_,by unfold Rp.val;rw [hag];rfl,y.h⟩,trivial⟩;refine this.mono fun e w' ⟨v,S'',he,hext,_,hv⟩=>⟨by rw [he,d7.1 hv],Yz hext⟩
  have hsz:d.toArray.size=xs.length:=by simpa using hdl
  have hH:Holds enc w b 0 d.toArray:=by
   intro j hj;have hj' :j<d.length:=by simpa using hj
   have hc:cur[j]? =some (enc d.toArray[j]!):=by
    have:(cur.toList.take xs.length)[j]? =some (enc d.toArray[j]!):=by
     rw [<-hd1,Co,getElem!_pos d.toArray j hj];simp [hj',enc]
    rw [D1 (by omega)]at this;simpa using this
   refine⟨by simp [World.cell?,H,hc],?_⟩;simp [World.frozen?,H]
  have hcall:=Any.slices_SortFunc L enc (fun p=>r.one p.h _ (List.mem_singleton_self _)) cf hO g cb b 0 cap d.toArray w (fun args w=>gC hcal args w) hcmp hH hblk (by rw [hsz];have:=hG.len;omega);rw [hsz]at hcall;refine hcall.mono fun e w' ⟨he,d',n,os,⟨hp1,_,hp2⟩,hso,hw⟩=>?_;have hd's:d'.size=xs.length:=by rw [hp1,hsz]
  have hp3:d'.toList.Perm d:=by
   have e1:d'.extract 0 xs.length=d' :=by rw [<-hd's];exact Array.extract_size
   have e2:d.toArray.extract 0 xs.length=d.toArray:=by rw [<-hsz];exact Array.extract_size
   rw [e1,e2]at hp2;simpa using hp2
  have hyd:ys=d'.toList.map XL.x:=by
   have hp4:(d'.toList.map XL.x).Perm xs:=by have:=hp3.map XL.x;rwa [hd2]at this
   refine List.Perm.eq_of_pairwise (le:=fun a b=>Af cmp b a=false) ?_ ?_ ?_ (hperm.trans hp4.symm)
   ·intro a c ha hc h5 h6;exact hG.anti a (hperm.mem_iff.1 ha) c (hp4.mem_iff.1 hc) h6 h5
   ·rw [hys];exact Bx hG xs fun y hy=>hy
   ·rw [List.pairwise_iff_getElem];intro i j hi hj hij;have hj' :j<d'.size:=by simpa using hj
    have:=hso i j (nh _) hij (by omega);rw [hlt,getElem!_pos d' j hj',getElem!_pos d' i (by omega)]at this;simpa using this
  subst hw;refine⟨he,⟨rfl,rfl,rfl,Nat.le_add_right _ _,?_,fun k hk hkb=>vG hk (fun e=>hkb (by rw [e])),SH.le_refl _,fun _ _ _=>rfl⟩,hs.same fun k o hk=>?_,⟨_,⟨_,GI H,by omega,hmax,?_,rfl⟩,?_,hno0⟩,hlen⟩
  ·unfold sortWorld;rw [size_grow,size_putRow];exact Nat.le_add_right _ _
  ·have hkb:k≠b:=fun e=>by subst e;rw [hno]at hk;cases hk
   exact vG (hs.lt hk) hkb
  ·simp [putCells,I,hcs]
  ·rw [I,Nat.mul_one,hlen,<-hd's,EF (by omega),hyd];exact OS d'.toList
section
variable{d:Nat}
def MJ(L:SlLaysF.n6 E.P ρ){f:FuncId}(hf:ρ.f 6=f)(hc:ak E.P f=true) [DecidableEq α](hag:r.agg=false){n:Nat}{x y:Operand}(hy' :Ey cmp xs=some ys)(V:be E.N G x (tV (aY l cap n)))(hn:n=xs.length)(hy:be E.N G y (eD E.P (fun p:α×α=>[Q r p.1,Q r p.2]) (Q (rI .i64)) cmp))(hd:Nat.blt d E.N.n=true)(k:ys.length=n->RG E ops tD rest (eV r aj l cap ys::O) ((d,Bf)::G)):RG E ops tD (⟨some d,.call ⟨.value (.func f),#[x,y],ats⟩,ty,pos,after,none⟩::rest) (eV r aj l cap xs::O) G:= .of rfl fun a w S st=>by
 subst hf;subst hn;have I:a.eval x=aY l cap xs.length:=V S a st.facts;have hr:(execOp a.eval ⟨some d,.call ⟨.value (.func (ρ.f 6)),#[x,y],ats⟩,ty,pos,after,none⟩).run E.P w= .ok (.enter (ρ.f 6) #[aY l cap xs.length,a.eval y]) w:=by
  have e0:a.eval (.func (ρ.f 6))= .func (.func (ρ.f 6)) #[] #[]:=rfl;simp [execOp,resolve,e0,I,Deferred.ofValue,invoke,gC hc]
 refine⟨fun c h=>(by cases h),?_⟩;rw [hr];refine(Zr L hag st.sat st.own.1.1 (hy S a st.facts) hy').mono fun e w' ⟨he,hext,hsat,hp,hlen⟩=>⟨_,he,?_⟩;have hfp: ∀g∈O,∀b,g.fp b-> ¬(l=some b):=fun g hg b H hl=>st.own.2.1 g hg b hl H;refine k hlen _ _ S ⟨st.ext.step hext (fun c hc=>st.own.1.2 c hc),hsat,⟨⟨hp,st.own.1.2⟩,st.own.2.1,st.own.2.2.ext hext hfp⟩,?_⟩;exact(st.facts.mono hext.keep).put hd trivial
end
