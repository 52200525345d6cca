/- cH of this claim: W64, W59, W61, W63, W67, W68, W58, W66, W71, W72, W73, W60, W44, W55, W29, W54. -/
import Derived.Test.YthbdkceckjihgaaGreatDoorBaV3
import Derived.Test.YthbdkceckjihgaaGreatDoorBaV2
import Derived.WideKeyRuns
import Derived.Shelf.GgSortFunc.Insertion
import Derived.Shelf.Slices.In.SortNone
import Derived.Test.YthbdkceckjihgaaGreatDoorBaV1
import Derived.Shelf.Unicode.CaseTo
import Derived.Shelf.Unicode.DecodeSlow
set_option linter.all false
namespace Go.Proofs.YthbdkceckjihgaaGreatDoor
open Go

variable{ac:Nat}{α:Type}{n:FuncId}{r:Rp α}{t:TypeId}
def qh{n:Nat}{r s:Option Ty}{t u:Ty}(h:(nL n ac r,s)=(some t,some u)):Nat.blt ac n=true/\r=some t/\s=some u:=
 ⟨(cm (px h).1).1,(cm (px h).1).2,(px h).2⟩
def Kt(G:io):Operand->Option Ty
 | .tmp k=>look G k
 | .const (.int k n)=>some (V (rI k) n)
 | .const (.bool b)=>some (V rB b)
 |_=>none
variable{G:io}{N:Fr}{x:Nat}
def CZ{t:Ty}: ∀{x:Operand},Kt G x=some t->ax N G x t
 | .tmp _,h=>Y h
 | .const (.int _ _),h=>by cases h;exact hI
 | .const (.bool _),h=>by cases h;exact hB
variable{ts:List Ty}{xs:List α}
def dc{N:Fr}{G:io}: ∀{xs:List Operand} {ts:List Ty},xs.map (Kt G)=ts.map some->fM N G xs ts
 |[],[],_=>trivial
 |_::_,_::_,h=>⟨CZ (List.cons.inj h).1,dc (List.cons.inj h).2⟩

variable{hx:Type}{E:En}{O:List OE}{X:Type}{ay:Exit->Act->World->Prop}{T U:TypeId}{a:Nat}{after after2:Array Edge}{agg:Bool}{ats:Array TypeId}{b bytes c cap d2:Nat}{dst:Option Tmp}{e:TypeId}{ρ:Type}{f:X->hx->Option (ρ×X)}{fid:FuncId}{g:Option (Nat×Bool)}{β:Type}{get:α->β}{i id' :Nat}{j:IntKind}{k:Nat}{κ:Type}{l:Option Nat}{m:List (κ×β)}{off:Nat}{ops:Array Oper}{p:Nat}{pos pos2:String}{q:Rp β}{st:TypeId}{tl:List α}{ty ty2:TypeId}{v:Operand}{w:World}{xt:TypeId}{y:Code}{yt:TypeId}{z:List Value}{γ:β->Ty}
section
variable{l:List Oper}{op:Op}{t:Ty}
def d(h:bE E O G ⟨some ac,op,ty,pos,after,none⟩ t)(k:RG E ops ay l O ((ac,t)::G))(hd:Nat.blt ac E.N.n=true:=by exact rfl):
  RG E ops ay (⟨some ac,op,ty,pos,after,none⟩::l) O G:=zV h hd k
def cN{x:α}{sz:Nat}(ti:TI E.P U sz bytes agg z)(hp:nL E.N.n ac (look G p)=some (bb r x))(k:RG E ops ay l O ((ac,V r x)::G))(hs:(r.sz,r.agg)=(sz,agg):=by exact rfl):RG E ops ay (⟨some ac,.load U (.tmp p),ty,pos,after,none⟩::l) O G:=zo (cm hp).1 (o9 ti (cm hp).2 hs) k
def pb{x:α}{sz:Nat}(hf:aX E.P T i=some (off,sz))(hq:fW r off q get)(hp:nL E.N.n ac (look G p)=some (bb r x))(k:RG E ops ay l O ((ac,bb q (get x))::G))(h0:(!(Nat.beq sz 0)&&Nat.ble (off+q.sz) r.sz)=true:=by exact rfl):
  RG E ops ay (⟨some ac,.fieldAddr T (.tmp p) i,ty,pos,after,none⟩::l) O G:=zo (cm hp).1 (oo hf hq (cm hp).2 h0) k
def bN{x:α}{sz s2:Nat}{p2:Nat}(hf:aX E.P T i=some (off,sz))(hq:fW r off q get)(ti:TI E.P U s2 bytes agg z)(hp:nL E.N.n ac (look G p)=some (bb r x))(k:RG E ops ay l O ((d2,V q (get x))::(ac,bb q (get x))::G))(h0:(!(Nat.beq sz 0)&&Nat.ble (off+q.sz) r.sz)=true:=by exact rfl)(hp2:nL E.N.n d2 (look ((ac,bb q (get x))::G) p2)=some (bb q (get x)):=by exact rfl)(hs:(q.sz,q.agg)=(s2,agg):=by exact rfl):
  RG E ops ay (⟨some ac,.fieldAddr T (.tmp p) i,ty,pos,after,none⟩::⟨some d2,.load U (.tmp p2),ty2,pos2,after2,none⟩::l) O G:=pb hf hq hp (cN ti hp2 k hs) h0
def bz{sz o:Nat}(n:Nat)(hf:aX E.P T i=some (off,sz))(hp:nL E.N.n ac (look G p)=some (tV (aj b o)))(k:RG E ops ay l O ((ac,tV (aj b n))::G))(h0:Nat.beq sz 0=false:=by exact rfl)(he:o+off=n:=by exact rfl):RG E ops ay (⟨some ac,.fieldAddr T (.tmp p) i,ty,pos,after,none⟩::l) O G:=zo (cm hp).1 (lA n hf h0 (cm hp).2 he) k
def dx(A:nL E.N.n ac (look G x)=some (tT ts))(hi:ts[i]? =some t)(k:RG E ops ay l O ((ac,t)::G)):RG E ops ay (⟨some ac,.extract (.tmp x) i,ty,pos,after,none⟩::l) O G:=zo (cm A).1 (ro hi (cm A).2) k
def bJ{n:Int}(k:RG E ops ay l O ((ac,V (rI j) n)::G))(hd:Nat.blt ac E.N.n=true:=by exact rfl):RG E ops ay (⟨some ac,.assign (.const (.int j n)),ty,pos,after,none⟩::l) O G:=zo hd OY k
def bQ{b:Bool}(k:RG E ops ay l O ((ac,V rB b)::G))(hd:Nat.blt ac E.N.n=true:=by exact rfl):RG E ops ay (⟨some ac,.assign (.const (.bool b)),ty,pos,after,none⟩::l) O G:=zo hd zab k
def cu(hu:E.P.underlying st=some (.slice e))(A:nL E.N.n ac (look G x)=some (V (dz r) xs))(k:RG E ops ay l O ((ac,V (rI .i64) (xs.length:Int))::G)):
  RG E ops ay (⟨some ac,.call ⟨.builtin .len,#[.tmp x],#[st]⟩,ty,pos,after,none⟩::l) O G:=zo (cm A).1 (Mx hu (cm A).2) k
def cY{v:α}(A:nL E.N.n ac (look G x)=some (V r v))(k:RG E ops ay l O ((ac,bb r v)::G)):RG E ops ay (⟨some ac,.box T (.tmp x),ty,pos,after,none⟩::l) O G:=zo (cm A).1 (zbx (cm A).2) k
def fF{b q:Bool}(h:(nL E.N.n ac (look G c),look G x)=(some (V rB b),some (j7 b (V rB q))))(k:RG E ops ay l O ((ac,V rB (b&&q))::G)):
  RG E ops ay (⟨some ac,.pick (.tmp c) (.tmp x) (.const (.bool false)),ty,pos,after,none⟩::l) O G:=zo (qh h).1 (zpa (qh h).2.1 (qh h).2.2) k
def gU{b q:Bool}(h:(nL E.N.n ac (look G c),look G x)=(some (V rB b),some (j7 (!b) (V rB q))))(k:RG E ops ay l O ((ac,V rB (b||q))::G)):
  RG E ops ay (⟨some ac,.pick (.tmp c) (.const (.bool true)) (.tmp x),ty,pos,after,none⟩::l) O G:=zo (qh h).1 (OU (qh h).2.1 (qh h).2.2) k
section
variable{y:Nat}{m n:Int}
def ou(h:(nL E.N.n ac (look G x),look G y)=(some (V (rI j) m),some (V (rI j) n)))(k:RG E ops ay l O ((ac,V rB (decide (m<n)))::G)):
  RG E ops ay (⟨some ac,.binOp .lss xt (.tmp x) (.tmp y) yt,ty,pos,after,none⟩::l) O G:=zo (qh h).1 (OV (qh h).2.1 (qh h).2.2) k
def eN(A:nL E.N.n ac (look G x)=some (V (rI j) m))(k:RG E ops ay l O ((ac,V rB (m==n))::G)):RG E ops ay (⟨some ac,.binOp .eql xt (.tmp x) (.const (.int j n)) yt,ty,pos,after,none⟩::l) O G:=zo (cm A).1 (OX (cm A).2) k
def ic(A:nL E.N.n ac (look G x)=some (V (rI j) m))(k:RG E ops ay l O ((ac,V rB (m !=n))::G)):RG E ops ay (⟨some ac,.binOp .neq xt (.tmp x) (.const (.int j n)) yt,ty,pos,after,none⟩::l) O G:=zo (cm A).1 (zni (cm A).2) k
def lF{c:Bool}(A:look G x=some (j7 c (V (rI j) m)))(hc:c=true):bE E O G ⟨dst,.binOp .eql xt (.tmp x) (.const (.int j n)) yt,ty,pos,after,g⟩ (V rB (m==n)):=mg (bI A hc) hI
def sq{c:Bool}(A:look G x=some (j7 c (V (rI j) m)))(hc:c=true):bE E O G ⟨dst,.binOp .neq xt (.tmp x) (.const (.int j n)) yt,ty,pos,after,g⟩ (V rB (m !=n)):=eJ (bI A hc) hI
def dr{id:Nat}{z w:Code}(A:xs.drop i=[])(h:(nL E.N.n ac (look G a),look G b)=(some (V (rI .i64) (i:Int)),some (V (rI .i64) (xs.length:Int))))(k:AT E ay .normal O ((ac,V rB (decide ((i:Int)<(xs.length:Int))))::G))(hc:look ((ac,V rB (decide ((i:Int)<(xs.length:Int))))::G) c=some (V rB (decide ((i:Int)<(xs.length:Int)))):=by exact rfl):
  LG E (Exit.inBlock id ay) (.seq (.region id' [⟨some ac,.binOp .lss xt (.tmp a) (.tmp b) yt,ty,pos,after,none⟩].toArray false) (.seq (.cond (.tmp c) z (.exit id)) w)) O G:=
 dg<|aU<|ou h<|bG<|aF<|ly (Y hc) (H6 A)<|dU<|au (au (cj k))
def dq{e:α}{z w:Code}(A:xs.drop i=e::tl)(h:(nL E.N.n ac (look G a),look G b)=(some (V (rI .i64) (i:Int)),some (V (rI .i64) (xs.length:Int))))(k:CG E (Exit.then (qQ E.r E.P (.seq (.region id' [⟨some ac,.binOp .lss xt (.tmp a) (.tmp b) yt,ty,pos,after,none⟩].toArray false) (.seq (.cond (.tmp c) .skip z) w)) ay) ay) w O ((ac,V rB (decide ((i:Int)<(xs.length:Int))))::G))(hc:look ((ac,V rB (decide ((i:Int)<(xs.length:Int))))::G) c=some (V rB (decide ((i:Int)<(xs.length:Int)))):=by exact rfl):
  LG E ay (.seq (.region id' [⟨some ac,.binOp .lss xt (.tmp a) (.tmp b) yt,ty,pos,after,none⟩].toArray false) (.seq (.cond (.tmp c) .skip z) w)) O G:=
 dg<|aU<|ou h<|bG<|aF<|lx (Y hc) (Fc A)<|ip k
end
def nB{y:α}{ix:Nat}{i:Int}{sz:Nat}(hu:E.P.underlying st=some (.slice e))(ti:TI E.P e sz bytes agg z)(h:(nL E.N.n ac (look G x),look G ix)=(some (V (dz r) xs),some (V (rI j) i)))(hy:gI xs i=some y)(k:RG E ops ay l O ((ac,bb r y)::G))(hsz:r.sz=sz:=by exact rfl):
  RG E ops ay (⟨some ac,.indexAddr st (.tmp x) (.tmp ix),ty,pos,after,none⟩::l) O G:=zo (qh h).1 (IP hu ti hsz (qh h).2.1 (qh h).2.2 hy) k
def eM{y:α}{ix:Nat}{i:Int}{sz:Nat}{p2:Nat}(hu:E.P.underlying st=some (.slice e))(ti:TI E.P e sz bytes agg z)(h:(nL E.N.n ac (look G x),look G ix)=(some (V (dz r) xs),some (V (rI j) i)))(hy:gI xs i=some y)(k:RG E ops ay l O ((d2,V r y)::(ac,bb r y)::G))(hsz:r.sz=sz:=by exact rfl)(hp2:nL E.N.n d2 (look ((ac,bb r y)::G) p2)=some (bb r y):=by exact rfl)(hs:(r.sz,r.agg)=(sz,agg):=by exact rfl):
  RG E ops ay (⟨some ac,.indexAddr st (.tmp x) (.tmp ix),ty,pos,after,none⟩::⟨some d2,.load e (.tmp p2),ty2,pos2,after2,none⟩::l) O G:=nB hu ti h hy (cN ti hp2 k hs) hsz
def bX{set:α->β->α}{x:α}{y:β}{sz:Nat}{v:Nat}{ty:TypeId}(ti:TI E.P U sz bytes agg z)(hset:dk r off q set)(h:(look G p,look G v)=(some (tV (aj b off)),some (V q y)))(k:RG E ops ay l (bx r T b (set x y)::O) G)(hsz:q.sz=sz:=by exact rfl)(hoff:Nat.ble (off+q.sz) r.sz=true:=by exact rfl):
  RG E ops ay (⟨none,.store U (.tmp p) (.tmp v),ty,pos,after,none⟩::l) (bx r T b x::O) G:=jb ti hsz hset hoff (Y (px h).1) (Y (px h).2) k
def Es(n:Nat)(ops:Array Oper)(ac j:Nat)(G:io):Option Ty:=((ops[j]?).bind (·.dst)).bind fun gs=>nL n gs (nL n ac (look G gs))
def xl{n ac j:Nat}{ops:Array Oper}{t:Ty}(h:Es n ops ac j G=some t): ∃gs,(ops[j]?).bind (·.dst)=some gs/\nL n gs (nL n ac (look G gs))=some t:=by
 unfold Es at h
 cases K:(ops[j]?).bind (·.dst)with
 |none=>rw [K]at h;cases h
 |some gs=>rw [K]at h;exact⟨gs,rfl,h⟩
def aB{j:Nat}{b:Bool}(K:Es E.N.n ops ac j G=some (V rB b))(h:b=true->bE E O G ⟨some ac,op,ty,pos,after,some (j,true)⟩ t)(k:RG E ops ay l O ((ac,j7 b t)::G)):
  RG E ops ay (⟨some ac,op,ty,pos,after,some (j,true)⟩::l) O G:=by obtain⟨gs,H,J⟩:=xl K;exact zgt H J h k
def aK{j:Nat}{b:Bool}(K:Es E.N.n ops ac j G=some (V rB b))(h:(!b)=true->bE E O G ⟨some ac,op,ty,pos,after,some (j,false)⟩ t)(k:RG E ops ay l O ((ac,j7 (!b) t)::G)):
  RG E ops ay (⟨some ac,op,ty,pos,after,some (j,false)⟩::l) O G:=by obtain⟨gs,H,J⟩:=xl K;exact zgf H J h k
section
variable{c:Bool}
def du{x:α}{sz:Nat}(ti:TI E.P U sz bytes agg z)(hp:look G p=some (j7 c (bb r x)))(hs:(r.sz,r.agg)=(sz,agg))(hc:c=true):
  bE E O G ⟨dst,.load U (.tmp p),ty,pos,after,g⟩ (V r x):=fS ti (px hs).1 (px hs).2 (bI hp hc)
def dP{x:α}{sz:Nat}(hf:aX E.P T i=some (off,sz))(hq:fW r off q get)(hp:look G p=some (bb r x))(h0:(!(Nat.beq sz 0)&&Nat.ble (off+q.sz) r.sz)=true)(_:c=true):bE E O G ⟨dst,.fieldAddr T (.tmp p) i,ty,pos,after,g⟩ (bb q (get x)):=oo hf hq hp h0
def cO(A:look G x=some t)(_:c=true):bE E O G ⟨dst,.move (.tmp x),ty,pos,after,g⟩ t:=fh A
def m4(A:look G x=some (j7 c t))(hc:c=true):bE E O G ⟨dst,.move (.tmp x),ty,pos,after,g⟩ t:=bt (bI A hc)
def kV(hu:E.P.underlying st=some (.slice e))(A:look G x=some (j7 c (V (dz r) xs)))(hc:c=true):
  bE E O G ⟨dst,.call ⟨.builtin .len,#[.tmp x],#[st]⟩,ty,pos,after,g⟩ (V (rI .i64) (xs.length:Int)):=fJ hu (bI A hc)
def qC{b:Bool}(A:look G x=some (j7 c (V rB b)))(hc:c=true):bE E O G ⟨dst,.unOp .not xt (.tmp x),ty,pos,after,g⟩ (V rB (!b)):=iz (bI A hc)
end
def bk(h:nL E.N.n ac (look G x)=some t)(k:CG E ay y O ((ac,t)::G)):RG E ops (Exit.then (y.wpIn (fw E.r) 0 E.P ay) ay) [⟨some ac,.assign (.tmp x),ty,pos,after,none⟩] O G:=gJ h (bG k)
def dh(h:AT E ay .ret O G):RG E ops (Exit.then (Code.ret.wpIn (fw E.r) 0 E.P ay) ay) [] O G:=bG (rk h)
def aR(h:nL E.N.n ac (look G x)=some t)(k:AT E ay .ret O ((ac,t)::G)):RG E ops (Exit.then (Code.ret.wpIn (fw E.r) 0 E.P ay) ay) [⟨some ac,.assign (.tmp x),ty,pos,after,none⟩] O G:=gJ h (dh k)
def aZ{id:Nat}{z:Code}(h:RG E l.toArray (Exit.then (y.wpIn (fw E.r) 0 E.P (Exit.then (z.wpIn (fw E.r) 0 E.P ay) ay)) (Exit.then (z.wpIn (fw E.r) 0 E.P ay) ay)) l O G):CG E ay (.seq (.seq (.region id l.toArray false) y) z) O G:=aF (aU h)
def aG{id:Nat}(h:nL E.N.n ac (look G x)=some t)(k:RG E ((⟨some ac,.move (.tmp x),ty,pos,after,none⟩::l).toArray) (Exit.then (y.wpIn (fw E.r) 0 E.P ay) ay) l O ((ac,t)::G)):
  CG E ay (.seq (.region id (⟨some ac,.move (.tmp x),ty,pos,after,none⟩::l).toArray false) y) O G:=aU (a8 h k)
def eD{α β:Type _}{a:Option α}{f:α->Option β}{R:β}{xs:List Operand}{u:α->Ty}(h:a.bind f=some R)(hc:af E.P fid=true)(hs: ∀{y},a=some y->cw E.P fid ts (u y))(A:fM E.N G xs ts)(k: ∀y,f y=some R->RG E ops ay l O ((ac,u y)::G))(hd:Nat.blt ac E.N.n=true:=by exact rfl):RG E ops ay (⟨some ac,.call ⟨.value (.func fid),xs.toArray,ats⟩,ty,pos,after,none⟩::l) O G:=
 ck h fun y hy h=>zV (bp hc (hs hy) A) hd (k y h)
def xk{α β:Type _}{γ:Type}{a:Option α}{f:α->Option β}{R:β}{r:Rp γ}{zs:α->List γ}{xs:List Operand}(h:a.bind f=some R)(hc:af E.P fid=true)(hs: ∀{y},a=some y->fL E.P fid ts false r T (zs y))(A:fM E.N G xs ts)(k: ∀y,f y=some R-> ∀b cap,RG E ops ay l (eg r T b cap (zs y)::O) ((ac,tV (M b cap (zs y).length))::G))(hd:Nat.blt ac E.N.n=true:=by exact rfl):
  RG E ops ay (⟨some ac,.call ⟨.value (.func fid),xs.toArray,ats⟩,ty,pos,after,none⟩::l) O G:=ck h fun y hy h=>Is hc (hs hy) A hd (k y h)
def db{e:α}{id:Nat}(A:xs.drop i=e::tl)(hN:xs.length<=maxLen)(h:nL E.N.n ac (look G a)=some (V (rI .i64) (i:Int)))(k:AT E ay .normal O ((d2,V (rI .i64) ((i+1:Nat):Int))::(ac,V (rI .i64) ((i+1:Nat):Int))::G))(J:nL E.N.n d2 (look ((ac,V (rI .i64) ((i+1:Nat):Int))::G) b)=some (V (rI .i64) ((i+1:Nat):Int)):=by exact rfl):
  AT E (Exit.inBlock id (Exit.then ((Code.region id' [⟨some ac,.binOp .add xt (.tmp a) (.const (.int .i64 1)) yt,ty,pos,after,none⟩,⟨some d2,.move (.tmp b),ty2,pos2,after2,none⟩].toArray false).wpIn (fw E.r) 0 E.P ay) ay)) .normal O G:=
 bl<|av<|aL<|zo (cm h).1 (OW (H5 A hN) (cm h).2)<|a8 J<|bu k
def Kr{e:α}{b2 d3 id:Nat}{ty3:TypeId}{pos3:String}{after3:Array Edge}(A:xs.drop i=e::tl)(hN:xs.length<=maxLen)(h:nL E.N.n ac (look G a)=some (V (rI .i64) (i:Int)))(k:AT E ay .normal O ((d3,V (rI .i64) ((i+1:Nat):Int))::(d2,V (rI .i64) ((i+1:Nat):Int))::(ac,V (rI .i64) (i:Int))::G))(H:nL E.N.n d2 (look ((ac,V (rI .i64) (i:Int))::G) b)=some (V (rI .i64) (i:Int)):=by exact rfl)(J:nL E.N.n d3 (look ((d2,V (rI .i64) ((i+1:Nat):Int))::(ac,V (rI .i64) (i:Int))::G) b2)=some (V (rI .i64) ((i+1:Nat):Int)):=by exact rfl):
  AT E (Exit.inBlock id (Exit.then ((Code.region id' [⟨some ac,.move (.tmp a),ty,pos,after,none⟩,⟨some d2,.binOp .add xt (.tmp b) (.const (.int .i64 1)) yt,ty2,pos2,after2,none⟩,⟨some d3,.assign (.tmp b2),ty3,pos3,after3,none⟩].toArray false).wpIn (fw E.r) 0 E.P ay) ay)) .normal O G:=
 bl<|av<|aL<|a8 h<|zo (cm H).1 (OW (H5 A hN) (cm H).2)<|gJ J<|bu k
section
variable{e:α}{q1 q2 d3 d4 id:Nat}{ty3 ty4 u:TypeId}{pos3 pos4:String}{after3 after4:Array Edge}{z w:Code}
def Ks(i:Nat)(r:Rp α)(xs:List α)(ac d2 d3 d4:Nat)(G:io):io:=(d4,V rB (decide ((i:Int)<(xs.length:Int))))::(d3,V (rI .i64) (xs.length:Int))::(d2,V (dz r) xs)::(ac,V (rI .i64) (i:Int))::G
def MB(hu:E.P.underlying st=some (.slice u))(A:xs.drop i=[])(h:(nL E.N.n ac (look G a),nL E.N.n d2 (look ((ac,V (rI .i64) (i:Int))::G) b))=(some (V (rI .i64) (i:Int)),some (V (dz r) xs)))
    (k:AT E ay .normal O ((d4,V rB (decide ((i:Int)<(xs.length:Int))))::(d3,V (rI .i64) (xs.length:Int))::(d2,V (dz r) xs)::(ac,V (rI .i64) (i:Int))::G))
    (D:(nL E.N.n d3 (look ((d2,V (dz r) xs)::(ac,V (rI .i64) (i:Int))::G) p),nL E.N.n d4 (look ((d3,V (rI .i64) (xs.length:Int))::(d2,V (dz r) xs)::(ac,V (rI .i64) (i:Int))::G) q1),
      look ((d3,V (rI .i64) (xs.length:Int))::(d2,V (dz r) xs)::(ac,V (rI .i64) (i:Int))::G) q2,look (Ks i r xs ac d2 d3 d4 G) c)=(some (V (dz r) xs),some (V (rI .i64) (i:Int)),some (V (rI .i64) (xs.length:Int)),some (V rB (decide ((i:Int)<(xs.length:Int))))):=by exact rfl):
    LG E (Exit.inBlock id ay) (.seq (.seq (.region id' [⟨some ac,.move (.tmp a),ty,pos,after,none⟩,⟨some d2,.move (.tmp b),ty2,pos2,after2,none⟩,⟨some d3,.call ⟨.builtin .len,#[.tmp p],#[st]⟩,ty3,pos3,after3,none⟩,⟨some d4,.binOp .lss xt (.tmp q1) (.tmp q2) yt,ty4,pos4,after4,none⟩].toArray false) (.cond (.tmp c) z (.exit id))) w) O G:=
  have h' :=px h;have e1:=px D;have e2:=px e1.2;have e3:=px e2.2
  dg<|aF<|aU<|a8 h'.1<|a8 h'.2<|cu hu e1.1<|zo (cm e2.1).1 (OV (cm e2.1).2 e3.1)<|bG<|ly (Y e3.2) (H6 A)<|dU<|au (au (cj k))
def MA(hu:E.P.underlying st=some (.slice u))(A:xs.drop i=e::tl)(h:(nL E.N.n ac (look G a),nL E.N.n d2 (look ((ac,V (rI .i64) (i:Int))::G) b))=(some (V (rI .i64) (i:Int)),some (V (dz r) xs)))
    (k:CG E (Exit.then (qQ E.r E.P (.seq (.seq (.region id' [⟨some ac,.move (.tmp a),ty,pos,after,none⟩,⟨some d2,.move (.tmp b),ty2,pos2,after2,none⟩,⟨some d3,.call ⟨.builtin .len,#[.tmp p],#[st]⟩,ty3,pos3,after3,none⟩,⟨some d4,.binOp .lss xt (.tmp q1) (.tmp q2) yt,ty4,pos4,after4,none⟩].toArray false) (.cond (.tmp c) .skip z)) w) ay) ay) w O
      ((d4,V rB (decide ((i:Int)<(xs.length:Int))))::(d3,V (rI .i64) (xs.length:Int))::(d2,V (dz r) xs)::(ac,V (rI .i64) (i:Int))::G))
    (D:(nL E.N.n d3 (look ((d2,V (dz r) xs)::(ac,V (rI .i64) (i:Int))::G) p),nL E.N.n d4 (look ((d3,V (rI .i64) (xs.length:Int))::(d2,V (dz r) xs)::(ac,V (rI .i64) (i:Int))::G) q1),
      look ((d3,V (rI .i64) (xs.length:Int))::(d2,V (dz r) xs)::(ac,V (rI .i64) (i:Int))::G) q2,look (Ks i r xs ac d2 d3 d4 G) c)=(some (V (dz r) xs),some (V (rI .i64) (i:Int)),some (V (rI .i64) (xs.length:Int)),some (V rB (decide ((i:Int)<(xs.length:Int))))):=by exact rfl):
    LG E ay (.seq (.seq (.region id' [⟨some ac,.move (.tmp a),ty,pos,after,none⟩,⟨some d2,.move (.tmp b),ty2,pos2,after2,none⟩,⟨some d3,.call ⟨.builtin .len,#[.tmp p],#[st]⟩,ty3,pos3,after3,none⟩,⟨some d4,.binOp .lss xt (.tmp q1) (.tmp q2) yt,ty4,pos4,after4,none⟩].toArray false) (.cond (.tmp c) .skip z)) w) O G:=
  have h' :=px h;have e1:=px D;have e2:=px e1.2;have e3:=px e2.2
  dg<|aF<|aU<|a8 h'.1<|a8 h'.2<|cu hu e1.1<|zo (cm e2.1).1 (OV (cm e2.1).2 e3.1)<|bG<|lx (Y e3.2) (Fc A)<|ip k
end
end
variable{P:Program}
section
variable{l:List Oper}
def ov(r:Rp α)(k:RG E ops ay l O ((ac,V (dz r) [])::G))(hd:Nat.blt ac E.N.n=true:=by exact rfl):RG E ops ay (⟨some ac,.assign (.const (.slice none 0 0)),ty,pos,after,none⟩::l) O G:=zo hd (bC Nb) k
def cE{β:Type _}{X ht:Option β}{r:β}{x:Code}{b:Bool}(h:(if b=true then X else ht)=some r)(D:look G c=some (V rB b))(A:X=some r->CG E ay x O G)(hy:ht=some r->CG E ay y O G):
  RG E ops (Exit.then ((Code.cond (.tmp c) x y).wpIn (fw E.r) 0 E.P ay) ay) [] O G:=bG (m3 h D A hy)
def cz{id:Nat}{hg:Act->World->Prop}(h:AT E ay .ret O G):AT E (Exit.inBlock id (Exit.then hg ay)) .ret O G:=rX (ah h)
def ev{n:Int}(k:AT E ay .ret O ((ac,V (rI j) n)::G))(hd:Nat.blt ac E.N.n=true:=by exact rfl):RG E ops (Exit.then (Code.ret.wpIn (fw E.r) 0 E.P ay) ay) [⟨some ac,.assign (.const (.int j n)),ty,pos,after,none⟩] O G:=zo hd OY (dh k)
def cX{f:FuncId}{fn:Func}{c:Code}{t:Ty}{N:Nat}(hf:P.funcs[f]? =some fn)(D:(fn.body,fn.ntmps,Nat.ble ts.length fn.ntmps)=(some c,N,true))(h: ∀{w0 S0},CG ⟨P,⟨N,[]⟩,oE,w0,S0,none⟩ (bodyPost P fn (Cl ⟨P,⟨N,[]⟩,oE,w0,S0,none⟩ t)) c [] (sB 0 ts)):cw P f ts t:=by
 obtain⟨H,J⟩:=px D
 obtain⟨J,h3⟩:=px J
 subst J
 exact cw.of hf H rfl h3 fun _ _=>h
section
def MC{G:io}{t:Ty}:look ((k,t)::G) k=some t:=by simp [look]
def iQ{u:Ty}(h:ts[i]? =some u)(hu:look G x=some u)(D:([(⟨x,u,none⟩:Nd)].all (j8 l ⟨dst,.move (.tmp x),ty,pos,after,g⟩ i)&&di i ⟨dst,.move (.tmp x),ty,pos,after,g⟩&&g.isNone)=true:=by exact rfl):
  ∃(needs:List Nd) (t:Ty),ts[i]? =some t/\mH G ts needs/\(needs.all (j8 l ⟨dst,.move (.tmp x),ty,pos,after,g⟩ i))=true/\di i ⟨dst,.move (.tmp x),ty,pos,after,g⟩=true/\ba E O l.toArray (fB needs) ⟨dst,.move (.tmp x),ty,pos,after,g⟩ t:=
 rp x h hu (fh MC) D
def mQ{v:α}{sz:Nat}(j:Nat)(ti:TI E.P U sz bytes agg z)(h:ts[i]? =some (V r v))(hu:ts[j]? =some (bb r v))(hs:(r.sz,r.agg)=(sz,agg):=by exact rfl)(D:([(⟨x,bb r v,some j⟩:Nd)].all (j8 l ⟨dst,.load U (.tmp x),ty,pos,after,g⟩ i)&&di i ⟨dst,.load U (.tmp x),ty,pos,after,g⟩&&g.isNone)=true:=by exact rfl):
  ∃(needs:List Nd) (t:Ty),ts[i]? =some t/\mH G ts needs/\(needs.all (j8 l ⟨dst,.load U (.tmp x),ty,pos,after,g⟩ i))=true/\di i ⟨dst,.load U (.tmp x),ty,pos,after,g⟩=true/\ba E O l.toArray (fB needs) ⟨dst,.load U (.tmp x),ty,pos,after,g⟩ t:=
 gH x j h hu (o9 ti MC hs) D
end
end

structure Iv{κ:Type} [DecidableEq κ](P:Program)(kt:TypeId)(kv:κ->Value):Prop where
 chk: ∀e w k,(Instr.checkKey e 10000 kt (kv k)).run P w= .ok () w
 eql: ∀w a b,(Op.equal kt (kv a) (kv b)).run P w= .ok (decide (a=b)) w
 wide:(match P.underlying kt with|some (.array _ _)|some (.struct _)=>true|_=>false)=true
 same: ∀k,Instr.sameBits 10000 (kv k) (kv k)=true
 inj: ∀a b,kv a=kv b->a=b
def k2(l:List Int):Int×Int:=(l.getD 0 0,l.getD 1 0)
variable{S:SH}{kt:TypeId}{kv:κ->Value}
section
variable [DecidableEq κ]{k:κ}
def DC{w:World}{S:SH}{k:κ}(hk:Iv P kt kv): ∀{es:List MapEntry} {m:List (κ×β)} (i:Nat),oO γ kv S es m->
  ∃u,(Instr.findAsking kt (kv k) es i).run P w= .ok u w/\((u=none/\(∀x∈es,x.key≠kv k)/\gK m k=none)\/ ∃(j:Nat) (e:MapEntry) (y:β),u=some (i+j,e.val)/\es[j]? =some e/\e.key=kv k/\gK m k=some y/\(γ y).p S e.val)
 |[],[],i,_=>⟨none,by simp [Instr.findAsking],.inl ⟨rfl,fun x A=>(by cases A),rfl⟩⟩
 |e::es,q::m,i,⟨H,J,h3,h4⟩=>by
  by_cases hq:k=q.1
  ·subst hq
   refine⟨some (i,e.val),?_,.inr ⟨0,e,q.2,rfl,rfl,H,by unfold gK;rw [fE rfl],J⟩⟩
   unfold Instr.findAsking
   simp [H,hk.eql,Result.andThen]
  ·obtain⟨u,g1,g2⟩:=DC hk (k:=k) (w:=w) (i+1) h4
   refine⟨u,?_,?_⟩
   ·unfold Instr.findAsking
    simp [H,hk.eql,hq,Result.andThen,g1]
   ·have hm:gK (q::m) k=gK m k:=by conv=>lhs;unfold gK;rw [cS (fun e=>hq e.symm)]
    rw [hm]
    rcases g2 with⟨e1,e2,e3⟩|⟨j,e',y,e1,e2,e3,e4,e5⟩
    ·refine .inl ⟨e1,fun x A=>?_,e3⟩
     rcases mJ.1 A with rfl|A
     ·rw [H];exact fun e=>hq (hk.inj _ _ e).symm
     ·exact e2 x A
    ·exact .inr ⟨j+1,e',y,by rw [e1];congr 2;omega,by simpa using e2,e3,e4,e5⟩
def EO{q k:κ}{y:β}(hk:q≠k): ∀(m:List (κ×β)),(∀p∈m,p.1≠q)-> ∀p∈gN m k y,p.1≠q:=by
 intro m
 induction m with
 |nil=>intro _ p hp;rw [List.mem_singleton.1 hp];exact fun e=>hk e.symm
 |cons p0 m ih=>
  intro hm p hp
  unfold gN at hp
  split at hp
  ·rcases mJ.1 hp with rfl|hp
   ·exact fun e=>hk e.symm
   ·exact hm p (oj _ hp)
  ·rcases mJ.1 hp with rfl|hp
   ·exact hm _ (oh ..)
   ·exact ih (fun p hp=>hm p (oj _ hp)) p hp
def yh(hinj: ∀a b,kv a=kv b->a=b){y:β}{v:Value}{born:Nat}(hv:(γ y).p S v): ∀{es:List MapEntry} {m:List (κ×β)},oO γ kv S es m->(∀x∈es,x.key≠kv k)->oO γ kv S (es++[⟨kv k,v,born⟩]) (gN m k y)
 |[],[],_,_=>⟨rfl,hv,fun _ h=>(by cases h),trivial⟩
 |e::es,q::m,⟨H,J,h3,h4⟩,hn=>by
  have hq:q.1≠k:=fun e' =>hn e (oh ..) (by rw [H,e'])
  have hm:gN (q::m) k y=q::gN m k y:=by conv=>lhs;unfold gN;rw [cS hq]
  rw [hm]
  exact⟨H,J,EO hq m h3,yh hinj hv h4 fun x A=>hn x (oj _ A)⟩
def zP(hinj: ∀a b,kv a=kv b->a=b){y:β}{v:Value}(hv:(γ y).p S v): ∀{es:List MapEntry} {m:List (κ×β)},oO γ kv S es m-> ∀j e,es[j]? =some e->e.key=kv k->oO γ kv S (es.modify j fun e=>{e with key:=kv k,val:=v}) (gN m k y)
 |[],[],_,j,e,he,_=>by cases he
 |e0::es,q::m,⟨H,J,h3,h4⟩,j,e,he,hek=>by
  cases j with
  |zero=>
   have he' :e0=e:=kP he
   subst he'
   have hq:q.1=k:=hinj _ _ (by rw [<-H,hek])
   have hm:gN (q::m) k y=(k,y)::m:=by conv=>lhs;unfold gN;rw [fE hq]
   rw [hm,List.modify_zero_cons]
   exact⟨rfl,hv,fun p hp=>by rw [<-hq];exact h3 p hp,h4⟩
  |succ j=>
   have he' :es[j]? =some e:=by simpa using he
   obtain⟨y',hy'⟩: ∃q' ∈m,q'.1=k:=by
    have hmem: ∀{es:List MapEntry} {m:List (κ×β)},oO γ kv S es m-> ∀(j:Nat) (e:MapEntry),es[j]? =some e->e.key=kv k-> ∃q' ∈m,q'.1=k:=by
     intro es
     induction es with
     |nil=>intro m _ j e he _;simp at he
     |cons e1 es ih=>
      intro m hm j e he hek
      cases m with
      |nil=>exact hm.elim
      |cons q1 m=>
       obtain⟨g1,_,_,g4⟩:=hm
       cases j with
       |zero=>
        have e2:e1=e:=kP he
        subst e2
        exact⟨q1,oh ..,hinj _ _ (by rw [<-g1,hek])⟩
       |succ j=>
        obtain⟨q',a1,a2⟩:=ih g4 j e (by simpa using he) hek
        exact⟨q',oj _ a1,a2⟩
    exact hmem h4 j e he' hek
   have hq:q.1≠k:=fun e' =>h3 y' hy'.1 (by rw [hy'.2,e'])
   have hm:gN (q::m) k y=q::gN m k y:=by conv=>lhs;unfold gN;rw [cS hq]
   rw [hm,v8]
   exact⟨H,J,EO hq m h3,zP hinj hv h4 j e he' hek⟩
def da(γ:β->Ty)(kv:κ->Value)(b:Nat)(m:List (κ×β)):OE where
 fp:=fun j=>j=b
 p:=fun w S=>S b=none/\ ∃es clock,w.heap[b]? =some (.map es clock)/\oO γ kv S es.toList m
 here:=by
  intro w S ⟨_,es,clock,h3,_⟩ j hj
  subst hj
  exact(sL.1 h3).1
 kept:=by
  intro C w w' S S' ⟨H,es,clock,h3,h4⟩ k hC
  have hlt:=(sL.1 h3).1
  exact⟨by rw [k.old b hlt (hC b rfl)];exact H,es,clock,by rw [k.heap b hlt (hC b rfl)];exact h3,pY k.keep h4⟩
end
variable{et:TypeId}{rest:List Oper}
section
variable [DecidableEq κ]{k:κ}{x i:Operand}{dst:Option Nat}
def Cx(γ:β->Ty)(kv:κ->Value)(hd:Nat.blt ac E.N.n=true)(k: ∀b,RG E ops ay rest (da γ kv b []::O) ((ac,tV (ak b))::G)):
  RG E ops ay (⟨some ac,.makeMap t none,ty,pos,after,none⟩::rest) O G:= .of rfl fun a w S st=>by
 obtain⟨he,hs',hno⟩:=gr (w:=w) (.map #[] 0) st.sat
 have hrun:(execOp a.eval ⟨some ac,.makeMap t none,ty,pos,after,none⟩).run E.P w= .ok (.value (ak w.heap.size)) (w.alloc (.map #[] 0)):=by
  simp [execOp,Instr.makeMap,ak]
 refine⟨fun c h=>(by cases h),?_⟩
 rw [hrun]
 exact k w.heap.size _ _ S ⟨st.ext.step0 he,hs',nd st.own he ⟨hno,#[],0,yE w _,trivial⟩ (fun b D=>vT D.symm) st.base_le,st.facts.put hd rfl⟩
def Km{y:β}(hm:E.P.underlying t=some (.map kt et))(hk:Iv E.P kt kv)(A:ax E.N G x (tV (ak b)))(hi:qq E.N G i (kv k))(hv:ax E.N G v (γ y))
  (h:RG E ops ay rest (da γ kv b (gN m k y)::O) G):RG E ops ay (⟨none,.mapUpdate t x i v,ty,pos,after,none⟩::rest) (da γ kv b m::O) G:= .of rfl fun a w S st=>by
 have H:a.eval x=ak b:=A S a st.facts
 have J:a.eval i=kv k:=hi S a st.facts
 have h3:(γ y).p S (a.eval v):=hv S a st.facts
 obtain⟨⟨hno,es,clock,h5,h6⟩,_⟩:=st.own.1
 have hlt:=(sL.1 h5).1
 obtain⟨u,g1,g2⟩:=DC hk (k:=k) (w:=w) 0 h6
 have hfk:(Instr.findKey kt (kv k) es.toList).run E.P w= .ok u w:=by rw [run_findKey_eq w hk.wide];exact g1
 obtain⟨X,hrun,hX⟩: ∃X:Obj,(Instr.mapUpdate t (ak b) (kv k) (a.eval v)).run E.P w= .ok () {w with heap:=w.heap.setIfInBounds b X}/\ ∃es' cl',X= .map es' cl' /\oO γ kv S es'.toList (gN m k y):=by
  rcases g2 with⟨rfl,g3,g4⟩|⟨j,e,y',rfl,g3,g4,_,_⟩
  ·refine⟨.map (es.push ⟨kv k,a.eval v,clock⟩) (clock+1),?_,_,_,rfl,by rw [Array.toList_push];exact yh hk.inj h3 h6 g3⟩
   simp [Instr.mapUpdate,ak,mK hm,Bp h5,hk.chk,hfk,Result.andThen,El _ h5]
  ·refine⟨.map (es.modify j fun e=>{e with key:=kv k,val:=a.eval v}) clock,?_,_,_,rfl,by rw [Array.toList_modify];exact zP hk.inj h3 h6 j e g3 g4⟩
   have hgd:((es[j]?).map (·.key)).getD (kv k)=kv k:=by
    rw [<-Ek,g3];exact g4
   simp only [qr]at hfk
   simp [Instr.mapUpdate,ak,mK hm,Bp h5,hk.chk,hfk,Result.andThen,hgd,Instr.keyThatStays,hk.same,El _ h5]
 have hrun' :(execOp a.eval ⟨none,.mapUpdate t x i v,ty,pos,after,none⟩).run E.P w= .ok .skip {w with heap:=w.heap.setIfInBounds b X}:=by simp [execOp,H,J,hrun]
 obtain⟨es',cl',rfl,h7⟩:=hX
 refine⟨fun c h=>(by cases h),?_⟩
 rw [hrun']
 obtain⟨q1,q2⟩:=MapKept.heap_set (o' := .map es' cl') h5
 obtain⟨f1,f2,f3⟩:=iy (O:=O) st.sat (w' :={w with heap:=w.heap.setIfInBounds b (.map es' cl')}) (da γ kv b m) (da γ kv b (gN m k y)) st.own (fun _=>ot) (fun _=>ot) ⟨rfl,rfl,rfl,by simp,gP _⟩ (fun j hj=>q2 j hj) ⟨hno,es',cl',q1,h7⟩ hno
 exact h _ _ S ⟨st.ext.step f1 (fun c hc=>st.own.1.2 c hc),f2,f3,st.facts⟩
end

section
variable [DecidableEq κ]{k:κ}{x i:Operand}{dst:Option Nat}
end
variable{os:Array Obj}
section
variable [DecidableEq κ]{tD:MV β}{os:List (Option Nat×Nat)}{h:Option κ}{x:Operand}{dst:Option Nat}
end
section
variable{e:Exit}
end


structure RM{α β:Type}(hg:Nat)(F:Rp α->Rp β):Prop where
 sz: ∀r r',r.sz=hg->r'.sz=hg->(F r).sz=(F r').sz
 mono: ∀r r',r.sz=hg->r'.sz=hg->(∀S cs x,r.rc S cs x->r'.rc S cs x)-> ∀S cs x,(F r).rc S cs x->(F r').rc S cs x
 cont: ∀(R:Nat->Rp α),(∀n,(R n).sz=hg)->(∀n S cs x,(R n).rc S cs x->(R (n+1)).rc S cs x)-> ∀r,r.sz=hg->(∀S cs x,r.rc S cs x-> ∃n,(R n).rc S cs x)-> ∀S cs x,(F r).rc S cs x-> ∃n,∀m,n<=m->(F (R m)).rc S cs x
def RM.map{γ:Type}{hg:Nat}{F:Rp α->Rp β}(f:γ->β)(h:RM hg F):RM hg (fun r=>f7 (F r) f):=
 ⟨fun r r' H J=>h.sz r r' H J,fun r r' H J h3 S cs x q=>h.mono r r' H J h3 S cs (f x) q,fun R hR up r hr h3 S cs x q=>h.cont R hR up r hr h3 S cs (f x) q⟩

section
variable{c:Code}{e:Exit}
end

variable{ys:List α}
section
def ED{q:Rp α}(hq:q.sz=1){cs:List Value}{m:Nat}(h:mL q S cs xs)(hm:m<=xs.length):mL q S (cs.take m) (xs.take m)/\mL q S (cs.drop m) (xs.drop m):=by
 have:=kI (xs:=xs.take m) (ys:=xs.drop m) (by rw [o8];exact h)
 rwa [wv,tB hm,hq,xc]at this
def q7{α:Type}(xs ys:List α):List α:=ys.take xs.length++xs.drop (min ys.length xs.length)
def p5:(q7 xs ys).length=xs.length:=by
 unfold q7
 simp
 omega
end
variable{mm:Bool}
section
variable{c:Code}
def Fz{lo hi:Int}(hs:cB xs lo hi=some ys)(h:sm mm r U l cap xs w S)(hS:hY w S): ∃S1,hY w S1/\(V (dz r) ys).p S1 (jr r.sz l cap lo.toNat ys.length):=by
 obtain⟨S1,_,k2,hd⟩:=O5 h hS
 refine⟨S1,k2,?_⟩
 obtain⟨l',m,rfl,rfl,h7,h8,rfl⟩:=ea hs
 obtain⟨ad,c,H,J,h3,h4⟩:=ik.1 hd
 have hlen:((xs.take m).drop l').length=m-l' :=by simp;omega
 cases l with
 |none=>
  obtain⟨cells,g1,_⟩:=h
  have A:xs=[]:=uX g1.1
  subst A
  have e:((([]:List α).take m).drop l')=[]:=by simp
  rw [e]
  exact tQ
 |some b=>
  have e1:Value.slice (some ⟨b,0,none⟩) xs.length cap= .slice ad xs.length c:=H
  injection e1 with e2 _ e3
  subst e2
  subst e3
  have h5:=sU h4 h7 h8 J
  refine ik.2 ⟨_,cap-l',?_,by omega,by omega,h5⟩
  unfold jr
  simp only [CK,hlen,Option.map_some,fc,qr]
  split<;>rfl
def IR{sz:Nat}(ti:TI P T sz bytes agg z):(P.info? T).map (·.size)=some sz:=by
 obtain⟨i,_,hi,hs,_⟩:=ti.get
 simp [hi,hs]
def FZ{α:Type}:Rp α where
 sz:=1
 agg:=false
 rc:=fun _ cs _=> ∃v,cs=[v]/\v.oneCell' =true
 mono:=fun _ h=>h
 len:=fun⟨v,h,_⟩=>by rw [h];rfl
 one:=fun⟨v,h,k⟩ c hc=>by rw [h]at hc;simp at hc;subst hc;exact k
 sc:=fun _=>rfl
def Be{l:List α}{e:α}(h:xs.drop i=e::l):(i:Int)<(xs.length:Int):=by
 have:=congrArg List.length h
 simp at this
 omega
def mf{n:Nat}{x ix:Operand}{y:α}{k:IntKind}{i:Int}{sz:Nat}(Y:E.P.underlying t=some (.slice e))(ti:TI E.P e sz bytes agg z)(hm:gL mm r U l cap xs∈O)(A:ax E.N G x (tV (M l cap n)))(hi:ax E.N G ix (V (rI k) i))(hy:gI xs i=some y)(hlt:i<(n:Int)):
  bE E O G ⟨dst,.indexAddr t x ix,ty,pos,after,g⟩ (tV (cv l (i.toNat*sz+0))):=
 .of_pure fun a w S _ ho hf=>by
  have H:a.eval x=M l cap n:=A S a hf
  have h3:a.eval ix= .int k i:=dK.1 (hi S a hf)
  obtain⟨h0,hy'⟩:=fK hy
  obtain⟨b,cur,rfl,_⟩:=k8 (ho.mem _ hm).1 hy'
  refine⟨_,?_,rfl⟩
  have hc:0<=i/\i<(n:Int):=⟨h0,hlt⟩
  simp [execOp,H,h3,M,Instr.indexAt,asIntOf,mK Y,hc,ti.sizeOf,fc,cv,aj]
end

def yk{zs:List α}(h:q7 xs ys=zs):zs.length=xs.length:=by rw [<-h,p5]

def gb(p:dN×dN):Value:= .agg #[cR p.1,cR p.2]
def O7{kt el sz:Nat}{l:Array Field} [DecidableEq α]{mk:dN×dN->α}(h:P.underlying kt=some (.struct l))(hl:l.toList.map (fun f=>(f.type,f.offset))=[(el,0),(el,1)])(he:P.underlying el=some .string)(ti:TI P el sz bytes agg z)(hsz:Nat.beq sz 1=true)(hag:r.agg=true)(hr: ∀p:dN×dN,r.rc (fun _=>none) [cR p.1,cR p.2] (mk p))(hinj: ∀p q,mk p=mk q->p=q)(hq:GD P kt r):Iv P kt gb where
 chk:=fun e w k=>by
  obtain⟨i,zv,hi,hs,_⟩:=ti.get
  have H:sz=1:=kR hsz
  have ha:(isAgg el).run P w= .ok false w:=by
   simp [isAgg,mK he,Result.andThen]
  have h3: ∀(j:Nat) (x:dN) (cs:Array Value),cs[j]? =some (cR x)->(part el cs j).run P w= .ok (cR x) w:=fun j x cs hj=>by
   simp [part,ha,Result.andThen,hj]
  have h4: ∀x:dN,(Instr.checkKey e 9999 el (cR x)).run P w= .ok () w:=fun x=>by
   show(Instr.checkKey e (9998+1) el (cR x)).run P w= .ok () w
   unfold Instr.checkKey
   simp only [mi,mK he,m6]
   rfl
  have e1:=h3 0 k.1 #[cR k.1,cR k.2] rfl
  have e2:=h3 1 k.2 #[cR k.1,cR k.2] rfl
  obtain⟨l0,rfl⟩: ∃l0:List Field,l=l0.toArray:=⟨l.toList,by simp⟩
  have hlen:l0.length=2:=by simpa using congrArg List.length hl
  obtain⟨f0,f1,rfl⟩: ∃f0 f1,l0=[f0,f1]:=by
   match l0,hlen with
   |[a,b],_=>exact⟨a,b,rfl⟩
  simp only [tz,List.map_nil,List.cons.injEq,Prod.mk.injEq,and_true]at hl
  obtain⟨⟨a0,b0⟩,⟨a1,b1⟩⟩:=hl
  show(Instr.checkKey e (9999+1) kt (gb k)).run P w= .ok () w
  unfold Instr.checkKey
  simp only [gb,mi,mK h,m6]
  by_cases n0:f0.name= "_" <;>by_cases n1:f1.name= "_" <;>simp [n0,n1,a0,a1,b0,b1,e1,e2,h4,Result.andThen]
 eql:=fun w a b=>by
  have:=hq.run (fun _=>none) _ _ _ _ 9980 w (hr a) (hr b)
  have e1:decide (mk a=mk b)=decide (a=b):=Ab.2 ⟨fun e=>hinj a b e,fun e=>by rw [e]⟩
  rw [e1]at this
  have hv: ∀p:dN×dN,r.val [cR p.1,cR p.2]=gb p:=fun p=>by simp [Rp.val,hag,gb]
  rw [hv,hv]at this
  show(Op.equalIn (9980+20) kt (gb a) (gb b)).run P w=_
  exact this
 wide:=by rw [h]
 same:=fun k=>by
  show Instr.sameBits (9999+1) (gb k) (gb k)=true
  unfold Instr.sameBits gb cR
  simp only [List.zip_cons_cons,List.zip_nil_left,xe,List.all_nil]
  unfold Instr.sameBits
  simp
  have D: ∀l:ByteArray,(l==l)=true:=fun l=>by
   cases l with
   |mk ac=>exact(beq_self_eq_true ac:(ac==ac)=true)
  exact⟨D _,D _⟩
 inj:=fun a b h=>by
  obtain⟨a1,a2⟩:=a;obtain⟨b1,b2⟩:=b
  simpa [gb,cR] using h
section
variable [DecidableEq κ]{k:κ}{x i:Operand}{dst:Option Nat}
def Hv{x:Operand}{y:α}{p:dN×dN}(hag:r.agg=true)(hr: ∀S cs,r.rc S cs y->cs=[cR p.1,cR p.2])(h:ax N G x (V r y)):qq N G x (gb p):=fun S a hf=>by
 obtain⟨cs,e,H⟩:=h S a hf
 rw [e,hr S cs H]
 simp [Rp.val,hag,gb]
def B0{z:β}{zv:Value}(hm:E.P.underlying t=some (.map kt et))(hk:Iv E.P kt kv)(hz:ZV E.P et zv)(hzt: ∀S,(γ z).p S zv)(hmem:da γ kv b m∈O)(A:ax E.N G x (tV (ak b)))(hi:qq E.N G i (kv k)):
  bE E O G ⟨dst,.lookup t x i true,ty,pos,after,g⟩ (tT [γ ((gK m k).getD z),V rB (gK m k).isSome]):= .of_pure fun a w S hs ho hf=>by
 obtain⟨⟨_,es,clock,h3,h4⟩,_⟩:=cr.mem ho _ hmem
 have H:a.eval x=ak b:=A S a hf
 have J:a.eval i=kv k:=hi S a hf
 obtain⟨u,g1,g2⟩:=DC hk (k:=k) (w:=w) 0 h4
 have hfk:(Instr.findKey kt (kv k) es.toList).run E.P w= .ok u w:=by rw [run_findKey_eq w hk.wide];exact g1
 rcases g2 with⟨rfl,_,g3⟩|⟨j,e,y,rfl,_,_,g3,g4⟩
 ·refine⟨.tuple #[zv,.bool false],?_,_,rfl,by rw [g3];exact hzt S,by rw [g3];exact fZ.2 rfl,trivial⟩
  simp [execOp,H,J,Instr.lookup,ak,mK hm,Bp h3,hk.chk,hfk,hz.run,Result.andThen]
 ·refine⟨.tuple #[e.val,.bool true],?_,_,rfl,by rw [g3];exact g4,by rw [g3];exact fZ.2 rfl,trivial⟩
  simp [execOp,H,J,Instr.lookup,ak,mK hm,Bp h3,hk.chk,hfk,Result.andThen]
def Gj{os:List (Option Nat×Nat)}{m:List (κ×List α)}(hm:E.P.underlying t=some (.map kt et))(hk:sG E.P kt kv)(hz:ZV E.P et (.slice none 0 0))(A:ax E.N G x (tV (ak b)))(hi:qq E.N G i (kv k)):
  EffOK E (bj (KC r T) kv b none os m::O) G ⟨some ac,.lookup t x i false,ty,pos,after,g⟩ (fun j=>Z r T (j.h 0).1 (j.h 0).2 ((gK m k).getD [])::bj (KC r T) kv b (some k) j.os m::O) (fun j=>tO r (j.h 0).1 (j.h 0).2 ((gK m k).getD [])):=fun a w S hs ho hf D=>by
 obtain⟨⟨⟨hno,hnb,es,clock,h3,h4,hst⟩,hfp⟩,hap,hO⟩:=ho
 obtain⟨q,hq,hdk,hinj⟩:=hk
 have H:a.eval x=ak b:=A S a hf
 have J:a.eval i=kv k:=hi S a hf
 obtain⟨os',p1,p2,h5⟩:=kF hdk hinj (k:=k) 0 h4
 have hn: ∀o∈os',o.1≠some b:=fun o ho=>by
  rcases p1 o ho with h|h
  ·exact hnb o h
  ·rw [h];exact fun e=>by cases e
 have hfp' : ∀j,(j=b\/ ∃o∈os',o.1=some j)->(j=b\/ ∃o∈os,o.1=some j):=fun j hj=>hj.imp id fun⟨o,ho,e⟩=>by
  rcases p1 o ho with h|h
  ·exact⟨o,h,e⟩
  ·rw [h]at e;cases e
 rcases h5 with⟨g1,g2⟩|⟨y,o,e,j,g1,g2,g3,g4,g5⟩
 ·have hrun:(execOp a.eval ⟨some ac,.lookup t x i false,ty,pos,after,g⟩).run E.P w= .ok (.value (.slice none 0 0)) w:=by simp [execOp,H,J,gp hm hq (hdk k) h3 hz g2]
  refine⟨fun c h=>(by cases h),?_⟩
  rw [hrun]
  exact⟨_,S,{h:=fun _=>(none,0),os:=os' },rfl,gj.refl _ _ _,hs,⟨⟨⟨[],⟨by rw [g1];rfl,rfl⟩,by rw [g1];rfl,fun b D=>(by cases D)⟩,fun j hj=>(by cases hj)⟩,fun f _ j hj=>(by cases hj),⟨⟨hno,hn,es,clock,h3,p2,hst⟩,fun j hj=>hfp j (hfp' j hj)⟩,fun f hf j hj=>hap f hf j (hfp' j hj),hO⟩,
   by rw [g1];rfl,by rw [g1];exact tQ⟩
 ·have hrun:(execOp a.eval ⟨some ac,.lookup t x i false,ty,pos,after,g⟩).run E.P w= .ok (.value e.val) w:=by simp [execOp,H,J,gp hm hq (hdk k) h3 hz g4]
  refine⟨fun c h=>(by cases h),?_⟩
  rw [hrun]
  have hy:(gK m k).getD []=y:=by rw [g1];rfl
  refine⟨_,S,{h:=fun _=>o,os:=os' },rfl,gj.refl _ _ _,hs,⟨⟨by rw [hy];exact g3.2,fun j hj=>hfp j (.inr ⟨o,g2,hj⟩)⟩,fun f hf j hj=>?_,⟨⟨hno,hn,es,clock,h3,p2,hst⟩,fun j hj=>hfp j (hfp' j hj)⟩,fun f hf j hj=>hap f hf j (hfp' j hj),hO⟩,
   by rw [hy];exact g3.1,by rw [hy,g3.1];exact ir g3.2⟩
  rcases mJ.1 hf with rfl|hf
  ·intro hj'
   rcases hj' with rfl|⟨o',ho',e'⟩
   ·exact hnb o g2 hj
   ·exact g5 o' ho' j hj e'
  ·exact hap f hf j (.inr ⟨o,g2,hj⟩)
end
def DV{q:Rp α}{zs:List α}{x y:Operand}{dT sT el:TypeId}(hq:q.sz=1)(hu:E.P.underlying dT=some (.slice el))(hs:(E.P.info? el).map (·.size)=some 1)(A:ax E.N G x (tV (M l cap xs.length)))(hy: ∀a w S,hY w S->cr E.base E.B w S (eg q U l cap xs::O)->cH E.N S a G-> ∃S1,hY w S1/\(V (dz q) ys).p S1 (a.eval y)/\ ∀cs zs,mL q S1 cs zs->mL q S cs (zs:List α))(hz:q7 xs ys=zs):
  EffOK E (eg q U l cap xs::O) G ⟨some ac,.call ⟨.builtin .copy,#[x,y],#[dT,sT]⟩,ty,pos,after,g⟩ (fun _=>eg q U l cap zs::O) (fun _=>V (rI .i64) ((min ys.length xs.length:Nat):Int)):=fun a w S hs0 ho hf D=>by
 subst hz
 have H:a.eval x=M l cap xs.length:=A S a hf
 obtain⟨S1,hs1,hy1,hback⟩:=hy a w S hs0 ho hf
 obtain⟨ad,cap',J,_,_,h3⟩:=ik.1 hy1
 obtain⟨⟨cells,hraw,hrc,hS⟩,hbase⟩:=ho.1
 have hm:min ys.length xs.length<=ys.length:=Nat.min_le_left _ _
 cases l with
 |none=>
  have hx0:xs=[]:=uX hraw.1
  subst hx0
  have hrun:(Builtin.copy_ #[dT,sT] ty #[.slice none 0 0,a.eval y]).run E.P w= .ok (goInt 0) w:=by
   rw [J]
   cases hel:E.P.info? el with
   |none=>simp [hel]at hs
   |some i=>
    have hi:i.size=1:=by simpa [hel] using hs
    cases ad with
    |none=>simp [Builtin.copy_,mK hu,Builtin.lenOf,Builtin.firstCells,sizeOf,typeInfo,hel,hi,storeCells]
    |some p=>
     have hl:=run_loadCells_list (P:=E.P) w p [] (fun j v hv=>by simp at hv)
     simp only [List.length_nil]at hl
     simp [Builtin.copy_,mK hu,Builtin.lenOf,Builtin.firstCells,sizeOf,typeInfo,hel,hi,storeCells,hl]
  have hx' :(execOp a.eval ⟨some ac,.call ⟨.builtin .copy,#[x,y],#[dT,sT]⟩,ty,pos,after,g⟩).run E.P w= .ok (.value (goInt 0)) w:=by
   have h1' :a.eval x= .slice none 0 0:=H
   simp [execOp,resolve,h1',invoke,builtin,hrun]
  refine⟨fun c h=>(by cases h),?_⟩
  rw [hx']
  refine⟨_,S,kT,rfl,gj.refl _ _ _,hs0,?_,?_⟩
  ·have e:q7 ([]:List α) ys=[]:=by unfold q7;simp
   rw [e];exact ho
  ·exact dK.2 (by simp [goInt])
 |some b=>
  obtain⟨cur,g1,g2,g3,g4,g5⟩:=hraw
  rw [hq,xc]at g4 g5
  have h1' :a.eval x= .slice (some ⟨b,0,none⟩) xs.length cap:=H
  have hxl:xs.length<=cur.toList.length:=by simp [g4];exact g2
  obtain⟨cs,hcs,hrun,hlen⟩: ∃cs,mL q S cs (ys.take (min ys.length xs.length))/\(Builtin.copy_ #[dT,sT] ty #[.slice (some ⟨b,0,none⟩) xs.length cap,a.eval y]).run E.P w= .ok (goInt cs.length) (w.setRow b (cs++cur.toList.drop cs.length).toArray)/\cs.length=min ys.length xs.length:=by
   rw [J]
   rcases h3 with rfl|⟨b',off,c,T',fr,rfl,e2,e3⟩
   ·refine⟨[],by simp [mL],?_,by simp⟩
    cases hel:E.P.info? el with
    |none=>simp [hel]at hs
    |some i=>
     have hi:i.size=1:=by simpa [hel] using hs
     have hself:w.setRow b (([]:List Value)++cur.toList.drop ([]:List Value).length).toArray=w:=by simpa using setRow_self w b cur U (0,0) g1
     rw [hself]
     cases ad with
     |none=>simp [Builtin.copy_,mK hu,Builtin.lenOf,Builtin.firstCells,sizeOf,typeInfo,hel,hi,storeCells]
     |some p=>
      have hl:=run_loadCells_list (P:=E.P) w p [] (fun j v hv=>by simp at hv)
      simp only [List.length_nil]at hl
      simp [Builtin.copy_,mK hu,Builtin.lenOf,Builtin.firstCells,sizeOf,typeInfo,hel,hi,storeCells,hl]
   ·obtain⟨c',h8,h9⟩:=hs1.part e2 (gX e3)
    obtain⟨d1,d2⟩:=ED hq e3 hm
    rw [w8,hq,xc,tB hm]at d1
    have hl:((c.toList.drop off).take (min ys.length xs.length)).length=min ys.length xs.length:=by
     rw [gX d1,hq,xc,wv,tB hm]
    refine⟨_,hback _ _ d1,?_,hl⟩
    have:=run_copy_row (P:=E.P) w dT sT ty el b 0 xs.length cap ⟨b',off,none⟩ ys.length cap' cur U ((c.toList.drop off).take (min ys.length xs.length)) hu hs g1 hl (fun j v hv=>?_) (by rw [hl];simp at hxl;omega) (ue d1)
    ·simpa using this
    ·have hj:j<min ys.length xs.length:=by rw [<-hl];exact(mO.1 hv).1
     have hcell:w.cell? ⟨b',off+j,none⟩=c'[off+j]? :=rN h8 _
     rw [fc]
     show w.cell? ⟨b',off+j,none⟩=_
     rw [hcell]
     have h10:((c'.toList.drop off).take (ys.length*q.sz))[j]? =((c.toList.drop off).take (ys.length*q.sz))[j]? :=by rw [h9]
     rw [uV (by rw [hq];omega),uV (by rw [hq];omega),sd,sd]at h10
     rw [uV hj,sd]at hv
     rw [<-hv,<-Ek,h10]
  have hx' :(execOp a.eval ⟨some ac,.call ⟨.builtin .copy,#[x,y],#[dT,sT]⟩,ty,pos,after,g⟩).run E.P w= .ok (.value (goInt cs.length)) (w.setRow b (cs++cur.toList.drop cs.length).toArray):=by
   simp [execOp,resolve,h1',invoke,builtin,hrun]
  refine⟨fun c h=>(by cases h),?_⟩
  rw [hx']
  have hle:min ys.length xs.length<=xs.length:=Nat.min_le_right _ _
  have hrc' :mL q S (cur.toList.take xs.length) xs:=by rw [g5];exact hrc
  obtain⟨_,d4⟩:=ED hq hrc' hle
  have hno:S b=none:=hS b rfl
  have hnew:sm false q U (some b) cap (q7 xs ys) (w.setRow b (cs++cur.toList.drop cs.length).toArray) S:=by
   refine⟨(cs++cur.toList.drop cs.length).take xs.length,⟨_,setRow_heap w b cur _ U _ g1,by rw [p5];exact g2,g3,?_,by rw [p5,hq,xc]⟩,?_,fun b' hb' =>by cases hb';exact hno⟩
   ·simp [hlen,hq];simp at hxl;omega
   ·unfold q7
    have e1:ys.take xs.length=ys.take (min ys.length xs.length):=by rw [List.take_eq_take_iff];omega
    have e2:(cs++cur.toList.drop cs.length).take xs.length=cs++(cur.toList.take xs.length).drop cs.length:=by
     rw [List.take_append,Ae (by omega),z8]
    rw [e1,e2,hlen]
    exact nI hcs d4
  obtain⟨k1,k2,k3⟩:=iy (O:=O) hs0 (w' :=w.setRow b (cs++cur.toList.drop cs.length).toArray) (eg q U (some b) cap xs) (eg q U (some b) cap (q7 xs ys)) ho (fun k=>by simp [eg,gL];exact eq_comm) (fun k=>by simp [eg,gL];exact eq_comm) ⟨rfl,rfl,rfl,by simp [World.setRow],gP _⟩ (fun k hk=>setRow_other w b k _ hk) hnew hno
  refine⟨_,S,kT,rfl,k1.more fun k hk=>⟨_,oh ..,by subst hk;rfl⟩,k2,k3,?_⟩
  rw [hlen]
  exact dK.2 rfl
def DU{k:IntKind}{tD:TypeId}{l2:Option Nat}{cap2:Nat}{xs ys zs ws:List Int}{lo hi:Int}{x y:Operand}{dT sT el:TypeId}(hm:gL mm (rI k) tD l2 cap2 ws∈eg (rI k) U l cap xs::O)(hsl:cB ws lo hi=some ys)(hu:E.P.underlying dT=some (.slice el))(hs:(E.P.info? el).map (·.size)=some 1)(A:ax E.N G x (tV (M l cap xs.length)))(hy:ax E.N G y (tV (jr 1 l2 cap2 lo.toNat ys.length)))(hz:q7 xs ys=zs):
  EffOK E (eg (rI k) U l cap xs::O) G ⟨some ac,.call ⟨.builtin .copy,#[x,y],#[dT,sT]⟩,ty,pos,after,g⟩ (fun _=>eg (rI k) U l cap zs::O) (fun _=>V (rI .i64) ((min ys.length xs.length:Nat):Int)):=
 DV rfl hu hs A (fun a w S hs0 ho hf=>by
  obtain⟨S1,H,J⟩:=Fz hsl (cr.mem ho _ hm).1 hs0
  refine⟨S1,H,?_,fun cs zs h=>by rw [uf h];exact(uf h)▸BW (fun h=>h) h⟩
  rw [show a.eval y=jr 1 l2 cap2 lo.toNat ys.length from hy S a hf]
  exact J) hz
abbrev Ep:Option Nat×Nat:=(none,0)
def I3(l:List (Option Nat×Nat))(os:List (List (Option Nat×Nat))):OI:={h:=fun n=>l.getD n (none,0),oss:=fun n=>os.getD n []}
def HC{get:α->Value}{cs:List Value}{x:α}(h:fW r off rV get)(k:r.rc S cs x):cs[off]? =some (get x):=by
 have H:(cs.drop off).take 1=[get x]:=(h S cs x k).1
 rw [List.take_one,List.head?_drop]at H
 cases hc:cs[off]? with
 |none=>rw [hc]at H;cases H
 |some v=>rw [hc]at H;simpa using H

def xp(t:Ty):Ty where
 p:=fun S v=>v.oneCell' =true/\t.p S v
 mono:=fun h ⟨e,k⟩=>⟨e,t.mono h k⟩
def M2{t:Ty}: ∀S v,(xp t).p S v->t.p S v:=fun _ _ h=>h.2
def Lt{t:Ty}: ∀S v,(xp t).p S v->v.oneCell' =true:=fun _ _ h=>h.1
def IU(n:FuncId)(pre post:List Ty)(b:Nat):Ty where
 p:=fun S v=> ∃us vs,v= .func (.func n) #[] (us++aj b 0::vs).toArray/\sn S pre us/\sn S post vs
 mono:=fun h ⟨us,vs,e,k1,k2⟩=>⟨us,vs,e,k1.mono h,k2.mono h⟩
variable{post pre:List Ty}
def Lu: ∀S v,(IU n pre post b).p S v->v.oneCell' =true:=fun _ _ ⟨_,_,e,_⟩=>by rw [e];rfl
def IT(n:FuncId)(pre post:List Ty)(b:Nat):Ty:=OP (aj b 0) (bb (rT (IU n pre post b)) ())
variable{Ob:X->OI->List OE}{args:hx->List Ty}{res:ρ->Ty}
section
def F1{caps:List Operand}{cts:List Ty}(hc:af E.P fid=true)(hp:fM E.N G caps cts)(hs: ∀x y R,f x y=some R-> ∀i,dB E.P fid (args y++cts) (Ob x i) (fun _:OI=>res R.1) (fun j=>Ob R.2 j)):
  bE E O G ⟨dst,.makeFunc (.func fid) #[] caps.toArray,ty,pos,after,g⟩ (xp (ig E.P args Ob res f)):= .of_pure fun a w S _ _ hf=>by
 have H:=hp.tys hf
 refine⟨.func (.func fid) #[] (caps.map a.eval).toArray,by simp [execOp,Instr.makeFunc],rfl,fun x y R hR=>⟨fid,#[],(caps.map a.eval).toArray,rfl,hc,fun i w' S' vs hle hsat hv ho=>?_⟩⟩
 have:=hs x y R hR i w' S' (vs++caps.map a.eval) hsat (hv.append (H.mono hle)) ho
 rw [show(#[]++vs.toArray++(caps.map a.eval).toArray:Array Value)=(vs++caps.map a.eval).toArray from by simp]
 exact this
def F2{xs ys:List Operand}{x:Operand}(H:fM E.N G xs pre)(A:ax E.N G x (tV (aj b 0)))(J:fM E.N G ys post):
  bE E O G ⟨dst,.makeFunc (.func n) #[] (xs++x::ys).toArray,ty,pos,after,g⟩ (IU n pre post b):= .of_pure fun a w S _ _ hf=>by
 have h3:a.eval x=aj b 0:=A S a hf
 exact⟨.func (.func n) #[] ((xs++x::ys).map a.eval).toArray,by simp [execOp,Instr.makeFunc],xs.map a.eval,ys.map a.eval,by simp [h3],H.tys hf,J.tys hf⟩
def zp{p:Operand}(ti:TI E.P U 1 bytes false z)(hp:ax E.N G p (IT n pre post b)):bE E O G ⟨dst,.load U p,ty,pos,after,g⟩ (IU n pre post b):=nJ ti (M1 hp)
def zm{t:Ty}{p:Operand}(ti:TI E.P U 1 bytes false z)(hp:ax E.N G p (bb (rT (xp t)) ())):bE E O G ⟨dst,.load U p,ty,pos,after,g⟩ t:=(nJ ti hp).imp M2
def yi{pst:List Ty}{fo cp:Operand}{xs:List Operand}(O1 Or:List OE){t:OI->Ty}{O2 post:OI->List OE}(hO:O=O1++Or)(hf:ax E.N G fo (IU n pre pst b))(hcp:ax E.N G cp (IT n pre pst b))(hc:af E.P n=true)(hs:dB E.P n (ts++(pre++IT n pre pst b::pst)) O1 t O2)(A:fM E.N G xs ts)(hpost: ∀i,O2 i++Or=post i):
  EffOK E O G ⟨some ac,.call ⟨.value fo,xs.toArray,ats⟩,ty,pos,after,g⟩ post t:=fun a w S hsat ho hF D=>by
 subst hO
 obtain rfl:(fun i=>O2 i++Or)=post:=funext hpost
 obtain⟨us,vs,e,H,J⟩:=hf S a hF
 have h3:(IT n pre pst b).p S (aj b 0):=by
  have:=hcp S a hF
  exact⟨rfl,this.2⟩
 have hr:(execOp a.eval ⟨some ac,.call ⟨.value fo,xs.toArray,ats⟩,ty,pos,after,g⟩).run E.P w= .ok (.enter n (xs.map a.eval++(us++aj b 0::vs)).toArray) w:=by
  simp [execOp,resolve,e,Deferred.ofValue,invoke,fA hc]
 refine⟨fun c h=>(by cases h),?_⟩
 rw [hr]
 have h4:sn S (ts++(pre++IT n pre pst b::pst)) (xs.map a.eval++(us++aj b 0::vs)):=(A.tys hF).append (H.append ⟨h3,J⟩)
 exact(hs w S _ hsat h4 (kM ho).1.weak).mono fun en w' ⟨i,v,S',he,hv,H,J,h3,h4⟩=>⟨_,he,v,S',i,rfl,H.more fun b ⟨f,hf,D⟩=>⟨f,CO _ hf,D⟩,J,cr.turn ho D H h3 h4,hv⟩
end
def IA(P:Program){hx X ρ:Type}(args:hx->List Ty)(Ob:X->OI->List OE)(res:ρ->Ty):Rp (X->hx->Option (ρ×X)) where
 sz:=1
 agg:=false
 rc:=fun S cs f=> ∃v,cs=[v]/\v.oneCell' =true/\(ig P args Ob res f).p S v
 mono:=fun h ⟨v,e,k,k2⟩=>⟨v,e,k,(ig _ _ _ _ _).mono h k2⟩
 len:=fun⟨v,h,_⟩=>by rw [h];rfl
 one:=fun⟨v,h,k,_⟩ c hc=>by rw [h]at hc;simp at hc;subst hc;exact k
 sc:=fun _=>rfl
def Lo{x:Operand}(h:ax N G x (V (IA P args Ob res) f)):ax N G x (ig P args Ob res f):=fun S a hf=>by
 obtain⟨cs,e,v,rfl,_,k⟩:=h S a hf
 rw [e];exact k
section
def nq{p:Operand}(hc:af E.P fid=true)(hp:ax E.N G p (tV (aj b 0)))(hs: ∀x y R,f x y=some R-> ∀i,dB E.P fid (tV (aj b 0)::args y) (Ob x i) (fun _:OI=>res R.1) (fun j=>Ob R.2 j)):
  bE E O G ⟨dst,.makeFunc (.func fid) #[p] #[],ty,pos,after,g⟩ (V (IA E.P args Ob res) f):= .of_pure fun a w S _ _ hf=>by
 have H:a.eval p=aj b 0:=hp S a hf
 refine⟨.func (.func fid) #[aj b 0] #[],by simp [execOp,Instr.makeFunc,H],[_],rfl,_,rfl,rfl,fun x y R hR=>⟨fid,#[aj b 0],#[],rfl,hc,fun i w' S' vs _ hsat hv ho=>?_⟩⟩
 have:=hs x y R hR i w' S' (aj b 0::vs) hsat ⟨rfl,hv⟩ ho
 rw [show(#[aj b 0]++vs.toArray++ #[]:Array Value)=(aj b 0::vs).toArray from by simp]
 exact this
end
variable{x0 x1 x10 x11 x12 x13 x14 x15 x2 x3 x4 x5 x6 x7 x8 x9:OE}
section
variable{c:Code}{e:Exit}{base:Nat}{B:Nat->Prop}{o:Oper}{post:OI->List OE}{t:OI->Ty}
def zD:(x0::x1::x2::x3::x4::x5::x6::x7::x8::x9::x10::x11::x12::x13::x14::x15::O).Perm (x15::x0::x1::x2::x3::x4::x5::x6::x7::x8::x9::x10::x11::x12::x13::x14::O):=(List.perm_middle (l₁:=[x0,x1,x2,x3,x4,x5,x6,x7,x8,x9,x10,x11,x12,x13,x14]) (l₂:=O))
def yu(h:RG E ops ay rest (x15::x0::x1::x2::x3::x4::x5::x6::x7::x8::x9::x10::x11::x12::x13::x14::O) G):RG E ops ay rest (x0::x1::x2::x3::x4::x5::x6::x7::x8::x9::x10::x11::x12::x13::x14::x15::O) G:=fun a w S st=>h a w S (st.own_map fun ho=>ho.perm zD)
def kG(h:AT E ay e (x15::x0::x1::x2::x3::x4::x5::x6::x7::x8::x9::x10::x11::x12::x13::x14::O) G):AT E ay e (x0::x1::x2::x3::x4::x5::x6::x7::x8::x9::x10::x11::x12::x13::x14::x15::O) G:=fun a w S st=>h a w S (st.own_map fun ho=>ho.perm zD)
def Il:(x0::x1::x2::x3::x4::x5::x6::x7::x8::x9::x10::x11::O).Perm (x1::x2::x3::x4::x5::x6::x7::x8::x9::x10::x11::x0::O):=(List.perm_middle (l₁:=[x1,x2,x3,x4,x5,x6,x7,x8,x9,x10,x11]) (l₂:=O)).symm
def jP(h:EffOK E (x1::x2::x3::x4::x5::x6::x7::x8::x9::x10::x11::x0::O) G o post t):EffOK E (x0::x1::x2::x3::x4::x5::x6::x7::x8::x9::x10::x11::O) G o post t:=EffOK.perm h (fun ho=>ho.perm Il) (fun f hf=>Il.symm.subset hf)
def Ik:(x0::x1::x2::x3::x4::x5::x6::x7::x8::x9::x10::x11::x12::O).Perm (x1::x2::x3::x4::x5::x6::x7::x8::x9::x10::x11::x12::x0::O):=(List.perm_middle (l₁:=[x1,x2,x3,x4,x5,x6,x7,x8,x9,x10,x11,x12]) (l₂:=O)).symm
def tu(h:EffOK E (x1::x2::x3::x4::x5::x6::x7::x8::x9::x10::x11::x12::x0::O) G o post t):EffOK E (x0::x1::x2::x3::x4::x5::x6::x7::x8::x9::x10::x11::x12::O) G o post t:=EffOK.perm h (fun ho=>ho.perm Ik) (fun f hf=>Ik.symm.subset hf)
end
open Go.Sort Go.Shelf

def ut(h:k<w.heap.size):(grow w os).heap[k]? =w.heap[k]? :=by
 unfold grow;exact Array.getElem?_append_left h
variable{enc:α->Value}
def Cc [Inhabited α]{ac:Array α}(h:k≠b):(putRow enc w b off ac).heap[k]? =w.heap[k]? :=by
 unfold putRow mapBlock
 rw [Array.getElem?_modify,cS (Ne.symm h)]
def ur [Inhabited α]{m:Nat}{ac:Array α}(hk:k<w.heap.size)(h:k≠b):(sortWorld enc w b off m ac os).heap[k]? =w.heap[k]? :=by
 unfold sortWorld
 rw [ut (by rw [size_putRow];exact hk),Cc h];rfl
def AM [Inhabited α]{m:Nat}{ac:Array α}{c:Array Value}{fr:Nat×Nat}(h:w.heap[b]? =some (.cells c T fr)):
  (sortWorld enc w b off m ac os).heap[b]? =some (.cells (putCells enc off ac c) T fr):=by
 have hlt:=(sL.1 h).1
 unfold sortWorld
 rw [ut (by rw [size_putRow];exact hlt)]
 unfold putRow mapBlock
 rw [Array.getElem?_modify,fE rfl]
 show Option.map _ (w.heap[b]?)=_
 rw [h];rfl
def yP [Inhabited α]{ac:Array α}{c:Array Value}(h:ac.size<=c.size):(putCells enc 0 ac c).toList.take ac.size=ac.toList.map enc:=by
 apply Bt
 intro k
 by_cases hk:k<ac.size
 ·rw [uV hk]
  have hc:k<c.size:=by omega
  simp [putCells,hc,hk]
 ·rw [Ft (by simp;omega),Ft (by simp;omega)]
section
def Cv{n m:Nat}(hl:m=n)(s:Nat)(hs:look G s=some (tV (M l cap n)))(k:RG E ops ay rest O ((s,tV (M l cap m))::G)):RG E ops ay rest O G:=by
 subst hl
 exact fun a w S st=>k a w S ⟨st.ext,st.sat,st.own,⟨st.facts.size,st.facts.defers,fun j t h=>by
  unfold look at h
  by_cases D:Nat.beq s j=true
  ·rw [D]at h
   have:=kR D
   subst this
   have e:tV (M l cap m)=t:=by simpa using h
   rw [<-e];exact st.facts.at_ s _ hs
  ·rw [uT]at D
   rw [D]at h
   exact st.facts.at_ j t h⟩⟩
end

def Mt{α:Type}(cmp:α×α->Option Int)(x y:α):Bool:=
 match cmp (x,y)with
 |some c=>decide (c<0)
 |none=>false
def M9{α:Type}(lt:α->α->Bool)(x:α):List α->List α
 |[]=>[x]
 |y::ys=>if lt y x then y::M9 lt x ys else x::y::ys
def KD{α:Type}(lt:α->α->Bool):List α->List α
 |[]=>[]
 |x::xs=>M9 lt x (KD lt xs)
structure Good{α:Type}(cmp:α×α->Option Int)(xs:List α):Prop where
 len:xs.length<=1099511627776
 tot: ∀x∈xs,∀y∈xs,(cmp (x,y)).isSome=true
 irr: ∀x∈xs,Mt cmp x x=false
 tr: ∀x∈xs,∀y∈xs,∀z∈xs,Mt cmp x y=true->Mt cmp y z=true->Mt cmp x z=true
 anti: ∀x∈xs,∀y∈xs,Mt cmp x y=false->Mt cmp y x=false->x=y
def sortI(xs:List Int):List Int:=xs.mergeSort fun x y=>decide (x<=y)
def za(xs:List Int):(sortI xs).length=xs.length:=by unfold sortI;simp
def zy(x:Int):List Int->List Int
 |[]=>[x]
 |y::l=>if x<=y then x::y::l else y::zy x l
def F7:List Int->List Int
 |[]=>[]
 |x::l=>zy x (F7 l)
def s0(x:Int): ∀l:List Int,(zy x l).Perm (x::l)
 |[]=> .refl _
 |y::l=>by
  unfold zy
  split
  ·exact .refl _
  ·exact((s0 x l).cons y).trans (.swap x y l)
def zx: ∀l:List Int,(F7 l).Perm l
 |[]=> .refl _
 |x::l=>(s0 x (F7 l)).trans ((zx l).cons x)
def B9(x:Int): ∀l:List Int,l.Pairwise (· <= ·)->(zy x l).Pairwise (· <= ·)
 |[],_=>List.pairwise_singleton _ _
 |y::l,h=>by
  have hy: ∀z∈l,y<=z:=fun z hz=>List.rel_of_pairwise_cons h hz
  unfold zy
  split
  ·rename_i A
   refine List.Pairwise.cons (fun z hz=>?_) h
   rcases mJ.1 hz with rfl|hz
   ·exact A
   ·exact Int.le_trans A (hy z hz)
  ·rename_i A
   refine List.Pairwise.cons (fun z hz=>?_) (B9 x l (List.Pairwise.of_cons h))
   rcases mJ.1 ((s0 x l).mem_iff.1 hz)with rfl|hz
   ·omega
   ·exact hy z hz
def ER: ∀l:List Int,(F7 l).Pairwise (· <= ·)
 |[]=> .nil
 |x::l=>B9 x _ (ER l)
def I6(l:List Int):F7 l=sortI l:=by
 refine List.Perm.eq_of_pairwise (le:=(· <= ·)) (fun a b _ _ H J=>Int.le_antisymm H J) (ER l) ?_ ((zx l).trans (List.mergeSort_perm l _).symm)
 have:=List.pairwise_mergeSort (le:=fun x y:Int=>decide (x<=y)) (fun a b c H J=>by simp at*;omega) (fun a b=>by simp;omega) l
 exact this.imp fun h=>by simpa using h
def xq(xs:List Int):Option (List Int):=if xs.length<=68719476736 then some (F7 xs)else none
def FM(xs:List Int):xq xs=if xs.length<=68719476736 then some (sortI xs)else none:=by
 unfold xq
 rw [I6]
def BI{xs ys:List Int}(h:xq xs=some ys):xs.length<=68719476736/\ys=sortI xs:=by
 rw [FM]at h
 split at h
 ·exact⟨by assumption,by simpa using h.symm⟩
 ·cases h


def EC{k:IntKind}{S:SH}: ∀{xs:List Int} {cs:List Value},mL (rI k) S cs xs->cs=xs.map (Value.int k)
 |[],cs,h=>by rw [show cs=[]from h];rfl
 |x::xs,cs,⟨a,b,e,H,J⟩=>by
  rw [e,show a=[.int k x]from H,EC J]
  rfl
def EQ{k:IntKind}{S:SH}: ∀xs:List Int,mL (rI k) S (xs.map (Value.int k)) xs
 |[]=>rfl
 |x::xs=>⟨[.int k x],_,rfl,rfl,EQ xs⟩
def FL{ρ:Ren}(L:Lays.n189 P ρ){xs:List Int}(hlen0:xs.length<=68719476736)(hs:hY w S)(h:(eg (rI .i64) T l cap xs).p w S):
  Calls P (ρ.f 189) #[M l cap xs.length] w fun e w' =>e= .returned (.tuple #[])/\gj (fun k=>l=some k) w S w' S/\hY w' S/\(eg (rI .i64) T l cap (sortI xs)).p w' S:=by
 cases l with
 |none=>
  have A:xs=[]:=uX (by obtain⟨_,h4,_⟩:=h;exact h4.1)
  subst A
  exact(Any.slices_Sort_int_none (P:=P) (ρ:=ρ) L none 0 w).mono fun _ _ ⟨H,J⟩=>by subst J;exact⟨H,gj.refl _ _ _,hs,by simpa [sortI] using h⟩
 |some b=>
  obtain⟨cells0,⟨cur,D,hle,hmax,hcs,hct⟩,hrc,hno0⟩:=h
  have hno:S b=none:=hno0 b rfl
  subst hct
  have H:(rI .i64).sz=1:=rfl
  rw [H,xc]at hcs hrc
  have hcells:=EC hrc
  have hH:Holds (Value.int .i64) w b 0 xs.toArray:=by
   intro j hj
   have hj' :j<xs.length:=by simpa using hj
   have hc:cur[j]? =some (Value.int .i64 xs.toArray[j]!):=by
    have:(cur.toList.take xs.length)[j]? =some (Value.int .i64 xs.toArray[j]!):=by
     rw [hcells,y4,getElem!_pos xs.toArray j hj]
     simp [hj']
    rw [uV (by omega)]at this
    simpa using this
   refine⟨by simp [World.cell?,D,hc],?_⟩
   simp [World.frozen?,D]
  have hblk:=(sL.1 D).1
  have hcall:=calls_of_every_depth fun hb=>AnyS.slices_Sort_int_alone (P:=P) (ρ:=ρ) L hb b 0 cap xs w hH hblk (by omega)
  refine hcall.mono fun e w' ⟨he,n,os,hw⟩=>?_
  have hlen:=za xs
  have hw2:w' =sortWorld (Value.int .i64) w b 0 n (sortI xs).toArray os:=hw
  subst hw2
  refine⟨he,⟨rfl,rfl,rfl,Nat.le_add_right _ _,?_,fun k hk hkb=>ur hk (fun e=>hkb (by rw [e])),SH.le_refl _,fun _ _ _=>rfl⟩,hs.same fun k o hk=>?_,⟨_,⟨_,AM D,by omega,hmax,?_,rfl⟩,?_,hno0⟩⟩
  ·unfold sortWorld;rw [size_grow,size_putRow];exact Nat.le_add_right _ _
  ·have hkb:k≠b:=fun e=>by subst e;rw [hno]at hk;cases hk
   exact ur (hs.lt hk) hkb
  ·simp [putCells,H,hcs]
  ·have e1:(sortI xs).length*(rI .i64).sz=(sortI xs).toArray.size:=by rw [H];simp
   rw [e1,yP (by simp;omega)]
   exact EQ (sortI xs)
section
def Ir{ρ:Ren}(L:Lays.n189 E.P ρ){f:FuncId}(hf:ρ.f 189=f)(hc:af E.P f=true){n:Nat}{xs ys:List Int}{x:Operand}(hy:xq xs=some ys)(A:ax E.N G x (tV (M l cap n)))(hn:n=xs.length)(hd:Nat.blt ac E.N.n=true)(k:ys.length=n->RG E ops ay rest (eg (rI .i64) T l cap ys::O) ((ac,oX)::G)):RG E ops ay (⟨some ac,.call ⟨.value (.func f),#[x],ats⟩,ty,pos,after,none⟩::rest) (eg (rI .i64) T l cap xs::O) G:= .of rfl fun a w S st=>by
 obtain⟨hl0,rfl⟩:=BI hy
 subst hf
 subst hn
 have H:a.eval x=M l cap xs.length:=A S a st.facts
 have hr:(execOp a.eval ⟨some ac,.call ⟨.value (.func (ρ.f 189)),#[x],ats⟩,ty,pos,after,none⟩).run E.P w= .ok (.enter (ρ.f 189) #[M l cap xs.length]) w:=by
  have e0:a.eval (.func (ρ.f 189))= .func (.func (ρ.f 189)) #[] #[]:=rfl
  simp [execOp,resolve,e0,H,Deferred.ofValue,invoke,fA hc]
 refine⟨fun c h=>(by cases h),?_⟩
 rw [hr]
 refine(FL L hl0 st.sat st.own.1.1).mono fun e w' ⟨he,hext,hsat,hp⟩=>⟨_,he,?_⟩
 have hfp: ∀g∈O,∀b,g.fp b-> ¬(l=some b):=fun g K b D hl=>st.own.2.1 g K b hl D
 refine k (za xs) _ _ S ⟨st.ext.step hext (fun c hc=>st.own.1.2 c hc),hsat,⟨⟨hp,st.own.1.2⟩,st.own.2.1,st.own.2.2.ext hext hfp⟩,?_⟩;exact(st.facts.mono hext.keep).put hd trivial
end
open Go.Lib

variable{W:World}
def lf(hle: ∀(b:Nat) (o:Obj),W.heap[b]? =some o-> ∃o',w.heap[b]? =some o' /\yD o o'){v:Value}(h:W.cell? ⟨b,i,none⟩=some v):w.cell? ⟨b,i,none⟩=some v:=by
 unfold World.cell? at h ⊢
 cases D:W.heap[b]? with
 |none=>simp [D]at h
 |some o=>
  obtain⟨o',H,J⟩:=hle b o D
  simp only [D]at h
  simp only [H]
  cases o with
  |cells c T fr=>
   obtain⟨l,rfl⟩:=J
   simp only [Option.isSome_none,sb,nu]at h ⊢
   rw [<-Ek]at h ⊢
   rw [yI (mO.1 h).1]
   exact h
  |_=>simp at h
def CB{g:Nat}{T:Array CaseRow}(hle: ∀(b:Nat) (o:Obj),W.heap[b]? =some o-> ∃o',w.heap[b]? =some o' /\yD o o')(h:CaseVar g T W):CaseVar g T w:=by
 obtain⟨R,oR,cap,H,J⟩:=h
 exact⟨R,oR,cap,lf hle H,fun i hi=>⟨lf hle (J i hi).1,lf hle (J i hi).2.1,lf hle (J i hi).2.2.1,lf hle (J i hi).2.2.2.1,lf hle (J i hi).2.2.2.2⟩⟩
def Bh{g3 g4:Nat}(hle: ∀(b:Nat) (o:Obj),W.heap[b]? =some o-> ∃o',w.heap[b]? =some o' /\yD o o')(h:Utf8Tabs g3 g4 W):Utf8Tabs g3 g4 w:=
 ⟨fun c hc=>lf hle (h.1 c hc),fun i hi=>⟨lf hle (h.2 i hi).1,lf hle (h.2 i hi).2⟩⟩
end Go.Proofs.YthbdkceckjihgaaGreatDoor

