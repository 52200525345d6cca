/- cu of this claim: W64, W59, W61, W63, W67, W68, W58, W66, W71, W72, W73, W60, W44, W55, W29, W54. -/
import Derived.Test.YthbdkceckjihgaaGreatDoorBeV3
import Derived.Test.YthbdkceckjihgaaGreatDoorBeV2
import Derived.WideKeyRuns
import Derived.Shelf.GgSortFunc.Insertion
import Derived.Shelf.Slices.In.SortNone
import Derived.Test.YthbdkceckjihgaaGreatDoorBeV1
import Derived.Shelf.Unicode.CaseTo
import Derived.Shelf.Unicode.DecodeSlow
set_option linter.all false
namespace Go.Proofs.YthbdkceckjihgaaGreatDoor
open Go

variable{d:Nat}{α:Type}{n:FuncId}{r:Rp α}{t:TypeId}
def vi{n:Nat}{r s:Option Ty}{t u:Ty}(h:(uI n d r,s)=(some t,some u)):Nat.blt d n=true/\r=some t/\s=some u:=
 ⟨(cY (vR h).1).1,(cY (vR h).1).2,(vR h).2⟩
def TO(G:lh):Operand->Option Ty
 | .tmp k=>look G k
 | .const (.int k n)=>some (K (rI k) n)
 | .const (.bool b)=>some (K rB b)
 |_=>none
variable{G:lh}{N:Fr}{x:Nat}
def Kk{t:Ty}: ∀{x:Operand},TO G x=some t->aE N G x t
 | .tmp _,h=>M h
 | .const (.int _ _),h=>by cases h;exact hI
 | .const (.bool _),h=>by cases h;exact hB
variable{ts:List Ty}{xs:List α}
def eS{N:Fr}{G:lh}: ∀{xs:List Operand} {ts:List Ty},xs.map (TO G)=ts.map some->iK N G xs ts
 |[],[],_=>trivial
 |_::_,_::_,h=>⟨Kk (zI h).1,eS (zI h).2⟩

variable{h1:Type}{E:En}{O:List OE}{X:Type}{tV:Exit->Act->World->Prop}{T U:TypeId}{a:Nat}{after after2:Array Edge}{agg:Bool}{ats:Array TypeId}{b bytes c cap d2:Nat}{dst:Option Tmp}{e:TypeId}{ρ:Type}{f:X->h1->Option (ρ×X)}{fid:FuncId}{g:Option (Nat×Bool)}{β:Type}{get:α->β}{i id' :Nat}{j:IntKind}{k:Nat}{κ:Type}{l:Option Nat}{m:List (κ×β)}{off:Nat}{ops:Array Oper}{p:Nat}{pos pos2:String}{q:Rp β}{st:TypeId}{tl:List α}{ty ty2:TypeId}{v:Operand}{w:World}{xt:TypeId}{y:Code}{yt:TypeId}{z:List Value}{γ:β->Ty}
section
variable{l:List Oper}{op:Op}{t:Ty}
def af(h:bP E O G ⟨some d,op,ty,pos,after,none⟩ t)(k:RG E ops tV l O ((d,t)::G))(hd:Nat.blt d E.N.n=true:=by exact rfl):
  RG E ops tV (⟨some d,op,ty,pos,after,none⟩::l) O G:=GK h hd k
def dM{x:α}{sz:Nat}(ti:TI E.P U sz bytes agg z)(hp:uI E.N.n d (look G p)=some (bn r x))(k:RG E ops tV l O ((d,K r x)::G))(hs:(r.sz,r.agg)=(sz,agg):=by exact rfl):RG E ops tV (⟨some d,.load U (.tmp p),ty,pos,after,none⟩::l) O G:=zo (cY hp).1 (ur ti (cY hp).2 hs) k
def yc{x:α}{sz:Nat}(hf:a8 E.P T i=some (off,sz))(hq:iZ r off q get)(hp:uI E.N.n d (look G p)=some (bn r x))(k:RG E ops tV l O ((d,bn q (get x))::G))(h0:(!(Nat.beq sz 0)&&Nat.ble (off+q.sz) r.sz)=true:=by exact rfl):
  RG E ops tV (⟨some d,.fieldAddr T (.tmp p) i,ty,pos,after,none⟩::l) O G:=zo (cY hp).1 (yb hf hq (cY hp).2 h0) k
def cK{x:α}{sz s2:Nat}{p2:Nat}(hf:a8 E.P T i=some (off,sz))(hq:iZ r off q get)(ti:TI E.P U s2 bytes agg z)(hp:uI E.N.n d (look G p)=some (bn r x))(k:RG E ops tV l O ((d2,K q (get x))::(d,bn q (get x))::G))(h0:(!(Nat.beq sz 0)&&Nat.ble (off+q.sz) r.sz)=true:=by exact rfl)(hp2:uI E.N.n d2 (look ((d,bn q (get x))::G) p2)=some (bn q (get x)):=by exact rfl)(hs:(q.sz,q.agg)=(s2,agg):=by exact rfl):
  RG E ops tV (⟨some d,.fieldAddr T (.tmp p) i,ty,pos,after,none⟩::⟨some d2,.load U (.tmp p2),ty2,pos2,after2,none⟩::l) O G:=yc hf hq hp (dM ti hp2 k hs) h0
def bt{sz o:Nat}(n:Nat)(hf:a8 E.P T i=some (off,sz))(hp:uI E.N.n d (look G p)=some (Q (ai b o)))(k:RG E ops tV l O ((d,Q (ai b n))::G))(h0:Nat.beq sz 0=false:=by exact rfl)(he:o+off=n:=by exact rfl):RG E ops tV (⟨some d,.fieldAddr T (.tmp p) i,ty,pos,after,none⟩::l) O G:=zo (cY hp).1 (mW n hf h0 (cY hp).2 he) k
def dX(V:uI E.N.n d (look G x)=some (tT ts))(hi:ts[i]? =some t)(k:RG E ops tV l O ((d,t)::G)):RG E ops tV (⟨some d,.extract (.tmp x) i,ty,pos,after,none⟩::l) O G:=zo (cY V).1 (yK hi (cY V).2) k
def cz{n:Int}(k:RG E ops tV l O ((d,K (rI j) n)::G))(hd:Nat.blt d E.N.n=true:=by exact rfl):RG E ops tV (⟨some d,.assign (.const (.int j n)),ty,pos,after,none⟩::l) O G:=zo hd zai k
def dA{b:Bool}(k:RG E ops tV l O ((d,K rB b)::G))(hd:Nat.blt d E.N.n=true:=by exact rfl):RG E ops tV (⟨some d,.assign (.const (.bool b)),ty,pos,after,none⟩::l) O G:=zo hd zab k
def dN(hu:E.P.underlying st=some (.slice e))(V:uI E.N.n d (look G x)=some (K (ek r) xs))(k:RG E ops tV l O ((d,K (rI .i64) (xs.length:Int))::G)):
  RG E ops tV (⟨some d,.call ⟨.builtin .len,#[.tmp x],#[st]⟩,ty,pos,after,none⟩::l) O G:=zo (cY V).1 (zln hu (cY V).2) k
def ea{v:α}(V:uI E.N.n d (look G x)=some (K r v))(k:RG E ops tV l O ((d,bn r v)::G)):RG E ops tV (⟨some d,.box T (.tmp x),ty,pos,after,none⟩::l) O G:=zo (cY V).1 (zbx (cY V).2) k
def jp{b q:Bool}(h:(uI E.N.n d (look G c),look G x)=(some (K rB b),some (nV b (K rB q))))(k:RG E ops tV l O ((d,K rB (b&&q))::G)):
  RG E ops tV (⟨some d,.pick (.tmp c) (.tmp x) (.const (.bool false)),ty,pos,after,none⟩::l) O G:=zo (vi h).1 (zpa (vi h).2.1 (vi h).2.2) k
def mp{b q:Bool}(h:(uI E.N.n d (look G c),look G x)=(some (K rB b),some (nV (!b) (K rB q))))(k:RG E ops tV l O ((d,K rB (b||q))::G)):
  RG E ops tV (⟨some d,.pick (.tmp c) (.const (.bool true)) (.tmp x),ty,pos,after,none⟩::l) O G:=zo (vi h).1 (zpo (vi h).2.1 (vi h).2.2) k
section
variable{y:Nat}{m n:Int}
def Dl(h:(uI E.N.n d (look G x),look G y)=(some (K (rI j) m),some (K (rI j) n)))(k:RG E ops tV l O ((d,K rB (decide (m<n)))::G)):
  RG E ops tV (⟨some d,.binOp .lss xt (.tmp x) (.tmp y) yt,ty,pos,after,none⟩::l) O G:=zo (vi h).1 (zlt (vi h).2.1 (vi h).2.2) k
def hM(V:uI E.N.n d (look G x)=some (K (rI j) m))(k:RG E ops tV l O ((d,K rB (m==n))::G)):RG E ops tV (⟨some d,.binOp .eql xt (.tmp x) (.const (.int j n)) yt,ty,pos,after,none⟩::l) O G:=zo (cY V).1 (zei (cY V).2) k
def lk(V:uI E.N.n d (look G x)=some (K (rI j) m))(k:RG E ops tV l O ((d,K rB (m !=n))::G)):RG E ops tV (⟨some d,.binOp .neq xt (.tmp x) (.const (.int j n)) yt,ty,pos,after,none⟩::l) O G:=zo (cY V).1 (zni (cY V).2) k
def oK{c:Bool}(V:look G x=some (nV c (K (rI j) m)))(hc:c=true):bP E O G ⟨dst,.binOp .eql xt (.tmp x) (.const (.int j n)) yt,ty,pos,after,g⟩ (K rB (m==n)):=qe (db V hc) hI
def BT{c:Bool}(V:look G x=some (nV c (K (rI j) m)))(hc:c=true):bP E O G ⟨dst,.binOp .neq xt (.tmp x) (.const (.int j n)) yt,ty,pos,after,g⟩ (K rB (m !=n)):=lw (db V hc) hI
def eQ{id:Nat}{z w:Code}(V:xs.drop i=[])(h:(uI E.N.n d (look G a),look G b)=(some (K (rI .i64) (i:Int)),some (K (rI .i64) (xs.length:Int))))(k:AT E tV .normal O ((d,K rB (decide ((i:Int)<(xs.length:Int))))::G))(hc:look ((d,K rB (decide ((i:Int)<(xs.length:Int))))::G) c=some (K rB (decide ((i:Int)<(xs.length:Int)))):=by exact rfl):
  LG E (Exit.inBlock id tV) (.seq (.region id' [⟨some d,.binOp .lss xt (.tmp a) (.tmp b) yt,ty,pos,after,none⟩].toArray false) (.seq (.cond (.tmp c) z (.exit id)) w)) O G:=
 gR<|bB<|Dl h<|ci<|aM<|qz (M hc) (Ua V)<|gZ<|aH (aH (dK k))
def eP{e:α}{z w:Code}(V:xs.drop i=e::tl)(h:(uI E.N.n d (look G a),look G b)=(some (K (rI .i64) (i:Int)),some (K (rI .i64) (xs.length:Int))))(k:CG E (Exit.then (y9 E.r E.P (.seq (.region id' [⟨some d,.binOp .lss xt (.tmp a) (.tmp b) yt,ty,pos,after,none⟩].toArray false) (.seq (.cond (.tmp c) .skip z) w)) tV) tV) w O ((d,K rB (decide ((i:Int)<(xs.length:Int))))::G))(hc:look ((d,K rB (decide ((i:Int)<(xs.length:Int))))::G) c=some (K rB (decide ((i:Int)<(xs.length:Int)))):=by exact rfl):
  LG E tV (.seq (.region id' [⟨some d,.binOp .lss xt (.tmp a) (.tmp b) yt,ty,pos,after,none⟩].toArray false) (.seq (.cond (.tmp c) .skip z) w)) O G:=
 gR<|bB<|Dl h<|ci<|aM<|qy (M hc) (Re V)<|nw k
end
def vh{y:α}{ix:Nat}{i:Int}{sz:Nat}(hu:E.P.underlying st=some (.slice e))(ti:TI E.P e sz bytes agg z)(h:(uI E.N.n d (look G x),look G ix)=(some (K (ek r) xs),some (K (rI j) i)))(hy:fg xs i=some y)(k:RG E ops tV l O ((d,bn r y)::G))(hsz:r.sz=sz:=by exact rfl):
  RG E ops tV (⟨some d,.indexAddr st (.tmp x) (.tmp ix),ty,pos,after,none⟩::l) O G:=zo (vi h).1 (Yf hu ti hsz (vi h).2.1 (vi h).2.2 hy) k
def jB{y:α}{ix:Nat}{i:Int}{sz:Nat}{p2:Nat}(hu:E.P.underlying st=some (.slice e))(ti:TI E.P e sz bytes agg z)(h:(uI E.N.n d (look G x),look G ix)=(some (K (ek r) xs),some (K (rI j) i)))(hy:fg xs i=some y)(k:RG E ops tV l O ((d2,K r y)::(d,bn r y)::G))(hsz:r.sz=sz:=by exact rfl)(hp2:uI E.N.n d2 (look ((d,bn r y)::G) p2)=some (bn r y):=by exact rfl)(hs:(r.sz,r.agg)=(sz,agg):=by exact rfl):
  RG E ops tV (⟨some d,.indexAddr st (.tmp x) (.tmp ix),ty,pos,after,none⟩::⟨some d2,.load e (.tmp p2),ty2,pos2,after2,none⟩::l) O G:=vh hu ti h hy (dM ti hp2 k hs) hsz
def cm{set:α->β->α}{x:α}{y:β}{sz:Nat}{v:Nat}{ty:TypeId}(ti:TI E.P U sz bytes agg z)(hset:dQ r off q set)(h:(look G p,look G v)=(some (Q (ai b off)),some (K q y)))(k:RG E ops tV l (bx r T b (set x y)::O) G)(hsz:q.sz=sz:=by exact rfl)(hoff:Nat.ble (off+q.sz) r.sz=true:=by exact rfl):
  RG E ops tV (⟨none,.store U (.tmp p) (.tmp v),ty,pos,after,none⟩::l) (bx r T b x::O) G:=lZ ti hsz hset hoff (M (vR h).1) (M (vR h).2) k
def Md(n:Nat)(ops:Array Oper)(d j:Nat)(G:lh):Option Ty:=((ops[j]?).bind (·.dst)).bind fun gs=>uI n gs (uI n d (look G gs))
def Dm{n d j:Nat}{ops:Array Oper}{t:Ty}(h:Md n ops d j G=some t): ∃gs,(ops[j]?).bind (·.dst)=some gs/\uI n gs (uI n d (look G gs))=some t:=by
 unfold Md at h
 cases hg:(ops[j]?).bind (·.dst)with
 |none=>rw [hg]at h;cases h
 |some gs=>rw [hg]at h;exact⟨gs,rfl,h⟩
def aI{j:Nat}{b:Bool}(hg:Md E.N.n ops d j G=some (K rB b))(h:b=true->bP E O G ⟨some d,op,ty,pos,after,some (j,true)⟩ t)(k:RG E ops tV l O ((d,nV b t)::G)):
  RG E ops tV (⟨some d,op,ty,pos,after,some (j,true)⟩::l) O G:=by obtain⟨gs,A,D⟩:=Dm hg;exact zgt A D h k
def br{j:Nat}{b:Bool}(hg:Md E.N.n ops d j G=some (K rB b))(h:(!b)=true->bP E O G ⟨some d,op,ty,pos,after,some (j,false)⟩ t)(k:RG E ops tV l O ((d,nV (!b) t)::G)):
  RG E ops tV (⟨some d,op,ty,pos,after,some (j,false)⟩::l) O G:=by obtain⟨gs,A,D⟩:=Dm hg;exact zgf A D h k
section
variable{c:Bool}
def eE{x:α}{sz:Nat}(ti:TI E.P U sz bytes agg z)(hp:look G p=some (nV c (bn r x)))(hs:(r.sz,r.agg)=(sz,agg))(hc:c=true):
  bP E O G ⟨dst,.load U (.tmp p),ty,pos,after,g⟩ (K r x):=nO ti (vR hs).1 (vR hs).2 (db hp hc)
def fE{x:α}{sz:Nat}(hf:a8 E.P T i=some (off,sz))(hq:iZ r off q get)(hp:look G p=some (bn r x))(h0:(!(Nat.beq sz 0)&&Nat.ble (off+q.sz) r.sz)=true)(_:c=true):bP E O G ⟨dst,.fieldAddr T (.tmp p) i,ty,pos,after,g⟩ (bn q (get x)):=yb hf hq hp h0
def eC(V:look G x=some t)(_:c=true):bP E O G ⟨dst,.move (.tmp x),ty,pos,after,g⟩ t:=jz V
def vj(V:look G x=some (nV c t))(hc:c=true):bP E O G ⟨dst,.move (.tmp x),ty,pos,after,g⟩ t:=bU (db V hc)
def vk(hu:E.P.underlying st=some (.slice e))(V:look G x=some (nV c (K (ek r) xs)))(hc:c=true):
  bP E O G ⟨dst,.call ⟨.builtin .len,#[.tmp x],#[st]⟩,ty,pos,after,g⟩ (K (rI .i64) (xs.length:Int)):=mE hu (db V hc)
def zO{b:Bool}(V:look G x=some (nV c (K rB b)))(hc:c=true):bP E O G ⟨dst,.unOp .not xt (.tmp x),ty,pos,after,g⟩ (K rB (!b)):=nZ (db V hc)
end
def bH(h:uI E.N.n d (look G x)=some t)(k:CG E tV y O ((d,t)::G)):RG E ops (Exit.then (y.wpIn (fw E.r) 0 E.P tV) tV) [⟨some d,.assign (.tmp x),ty,pos,after,none⟩] O G:=lj h (ci k)
def ie(h:AT E tV .ret O G):RG E ops (Exit.then (Code.ret.wpIn (fw E.r) 0 E.P tV) tV) [] O G:=ci (zB h)
def bm(h:uI E.N.n d (look G x)=some t)(k:AT E tV .ret O ((d,t)::G)):RG E ops (Exit.then (Code.ret.wpIn (fw E.r) 0 E.P tV) tV) [⟨some d,.assign (.tmp x),ty,pos,after,none⟩] O G:=lj h (ie k)
def bJ{id:Nat}{z:Code}(h:RG E l.toArray (Exit.then (y.wpIn (fw E.r) 0 E.P (Exit.then (z.wpIn (fw E.r) 0 E.P tV) tV)) (Exit.then (z.wpIn (fw E.r) 0 E.P tV) tV)) l O G):CG E tV (.seq (.seq (.region id l.toArray false) y) z) O G:=aM (bB h)
def aL{id:Nat}(h:uI E.N.n d (look G x)=some t)(k:RG E ((⟨some d,.move (.tmp x),ty,pos,after,none⟩::l).toArray) (Exit.then (y.wpIn (fw E.r) 0 E.P tV) tV) l O ((d,t)::G)):
  CG E tV (.seq (.region id (⟨some d,.move (.tmp x),ty,pos,after,none⟩::l).toArray false) y) O G:=bB (bE h k)
def hU{α β:Type _}{a:Option α}{f:α->Option β}{R:β}{xs:List Operand}{u:α->Ty}(h:a.bind f=some R)(hc:aj E.P fid=true)(hs: ∀{y},a=some y->dn E.P fid ts (u y))(V:iK E.N G xs ts)(k: ∀y,f y=some R->RG E ops tV l O ((d,u y)::G))(hd:Nat.blt d E.N.n=true:=by exact rfl):RG E ops tV (⟨some d,.call ⟨.value (.func fid),xs.toArray,ats⟩,ty,pos,after,none⟩::l) O G:=
 cI h fun y hy h=>GK (bL hc (hs hy) V) hd (k y h)
def PJ{α β:Type _}{γ:Type}{a:Option α}{f:α->Option β}{R:β}{r:Rp γ}{zs:α->List γ}{xs:List Operand}(h:a.bind f=some R)(hc:aj E.P fid=true)(hs: ∀{y},a=some y->j8 E.P fid ts false r T (zs y))(V:iK E.N G xs ts)(k: ∀y,f y=some R-> ∀b cap,RG E ops tV l (d7 r T b cap (zs y)::O) ((d,Q (Y b cap (zs y).length))::G))(hd:Nat.blt d E.N.n=true:=by exact rfl):
  RG E ops tV (⟨some d,.call ⟨.value (.func fid),xs.toArray,ats⟩,ty,pos,after,none⟩::l) O G:=cI h fun y hy h=>RC hc (hs hy) V hd (k y h)
def eB{e:α}{id:Nat}(V:xs.drop i=e::tl)(hN:xs.length<=maxLen)(h:uI E.N.n d (look G a)=some (K (rI .i64) (i:Int)))(k:AT E tV .normal O ((d2,K (rI .i64) ((i+1:Nat):Int))::(d,K (rI .i64) ((i+1:Nat):Int))::G))(D:uI E.N.n d2 (look ((d,K (rI .i64) ((i+1:Nat):Int))::G) b)=some (K (rI .i64) ((i+1:Nat):Int)):=by exact rfl):
  AT E (Exit.inBlock id (Exit.then ((Code.region id' [⟨some d,.binOp .add xt (.tmp a) (.const (.int .i64 1)) yt,ty,pos,after,none⟩,⟨some d2,.move (.tmp b),ty2,pos2,after2,none⟩].toArray false).wpIn (fw E.r) 0 E.P tV) tV)) .normal O G:=
 bR<|aJ<|bg<|zo (cY h).1 (X7 (Ns V hN) (cY h).2)<|bE D<|bN k
def V2{e:α}{b2 d3 id:Nat}{ty3:TypeId}{pos3:String}{after3:Array Edge}(V:xs.drop i=e::tl)(hN:xs.length<=maxLen)(h:uI E.N.n d (look G a)=some (K (rI .i64) (i:Int)))(k:AT E tV .normal O ((d3,K (rI .i64) ((i+1:Nat):Int))::(d2,K (rI .i64) ((i+1:Nat):Int))::(d,K (rI .i64) (i:Int))::G))(A:uI E.N.n d2 (look ((d,K (rI .i64) (i:Int))::G) b)=some (K (rI .i64) (i:Int)):=by exact rfl)(D:uI E.N.n d3 (look ((d2,K (rI .i64) ((i+1:Nat):Int))::(d,K (rI .i64) (i:Int))::G) b2)=some (K (rI .i64) ((i+1:Nat):Int)):=by exact rfl):
  AT E (Exit.inBlock id (Exit.then ((Code.region id' [⟨some d,.move (.tmp a),ty,pos,after,none⟩,⟨some d2,.binOp .add xt (.tmp b) (.const (.int .i64 1)) yt,ty2,pos2,after2,none⟩,⟨some d3,.assign (.tmp b2),ty3,pos3,after3,none⟩].toArray false).wpIn (fw E.r) 0 E.P tV) tV)) .normal O G:=
 bR<|aJ<|bg<|bE h<|zo (cY A).1 (X7 (Ns V hN) (cY A).2)<|lj D<|bN k
section
variable{e:α}{q1 q2 d3 d4 id:Nat}{ty3 ty4 u:TypeId}{pos3 pos4:String}{after3 after4:Array Edge}{z w:Code}
end
end
variable{P:Program}
section
variable{l:List Oper}
def yd(r:Rp α)(k:RG E ops tV l O ((d,K (ek r) [])::G))(hd:Nat.blt d E.N.n=true:=by exact rfl):RG E ops tV (⟨some d,.assign (.const (.slice none 0 0)),ty,pos,after,none⟩::l) O G:=zo hd (cy WB) k
def dY{β:Type _}{X aa:Option β}{r:β}{x:Code}{b:Bool}(h:(if b=true then X else aa)=some r)(H:look G c=some (K rB b))(V:X=some r->CG E tV x O G)(hy:aa=some r->CG E tV y O G):
  RG E ops (Exit.then ((Code.cond (.tmp c) x y).wpIn (fw E.r) 0 E.P tV) tV) [] O G:=ci (tY h H V hy)
def dP{id:Nat}{tD:Act->World->Prop}(h:AT E tV .ret O G):AT E (Exit.inBlock id (Exit.then tD tV)) .ret O G:=GR (aw h)
def gb{n:Int}(k:AT E tV .ret O ((d,K (rI j) n)::G))(hd:Nat.blt d E.N.n=true:=by exact rfl):RG E ops (Exit.then (Code.ret.wpIn (fw E.r) 0 E.P tV) tV) [⟨some d,.assign (.const (.int j n)),ty,pos,after,none⟩] O G:=zo hd zai (ie k)
def eu{f:FuncId}{fn:Func}{c:Code}{t:Ty}{N:Nat}(hf:P.funcs[f]? =some fn)(H:(fn.body,fn.ntmps,Nat.ble ts.length fn.ntmps)=(some c,N,true))(h: ∀{w0 S0},CG ⟨P,⟨N,[]⟩,sR,w0,S0,none⟩ (bodyPost P fn (Lt ⟨P,⟨N,[]⟩,sR,w0,S0,none⟩ t)) c [] (yv 0 ts)):dn P f ts t:=by
 obtain⟨A,D⟩:=vR H
 obtain⟨D,h3⟩:=vR D
 subst D
 exact dn.of hf A rfl h3 fun _ _=>h
section
def V3{G:lh}{t:Ty}:look ((k,t)::G) k=some t:=by simp [look]
def oL{u:Ty}(h:ts[i]? =some u)(hu:look G x=some u)(H:([(⟨x,u,none⟩:Nd)].all (nW l ⟨dst,.move (.tmp x),ty,pos,after,g⟩ i)&&d6 i ⟨dst,.move (.tmp x),ty,pos,after,g⟩&&g.isNone)=true:=by exact rfl):
  ∃(needs:List Nd) (t:Ty),ts[i]? =some t/\qS G ts needs/\(needs.all (nW l ⟨dst,.move (.tmp x),ty,pos,after,g⟩ i))=true/\d6 i ⟨dst,.move (.tmp x),ty,pos,after,g⟩=true/\be E O l.toArray (iR needs) ⟨dst,.move (.tmp x),ty,pos,after,g⟩ t:=
 xQ x h hu (jz V3) H
def yM{v:α}{sz:Nat}(j:Nat)(ti:TI E.P U sz bytes agg z)(h:ts[i]? =some (K r v))(hu:ts[j]? =some (bn r v))(hs:(r.sz,r.agg)=(sz,agg):=by exact rfl)(H:([(⟨x,bn r v,some j⟩:Nd)].all (nW l ⟨dst,.load U (.tmp x),ty,pos,after,g⟩ i)&&d6 i ⟨dst,.load U (.tmp x),ty,pos,after,g⟩&&g.isNone)=true:=by exact rfl):
  ∃(needs:List Nd) (t:Ty),ts[i]? =some t/\qS G ts needs/\(needs.all (nW l ⟨dst,.load U (.tmp x),ty,pos,after,g⟩ i))=true/\d6 i ⟨dst,.load U (.tmp x),ty,pos,after,g⟩=true/\be E O l.toArray (iR needs) ⟨dst,.load U (.tmp x),ty,pos,after,g⟩ t:=
 ka x j h hu (ur ti V3 hs) H
end
end

structure Pq{κ:Type} [DecidableEq κ](P:Program)(kt:TypeId)(kv:κ->Value):Prop where
 chk: ∀e w k,(Instr.checkKey e 10000 kt (kv k)).run P w= .ok () w
 eql: ∀w a b,(Op.equal kt (kv a) (kv b)).run P w= .ok (decide (a=b)) w
 wide:(match P.underlying kt with|some (.array _ _)|some (.struct _)=>true|_=>false)=true
 same: ∀k,Instr.sameBits 10000 (kv k) (kv k)=true
 inj: ∀a b,kv a=kv b->a=b
def Sp(p:Int×Int):Value:= .agg #[.int .i64 p.1,.int .i64 p.2]
def k2(l:List Int):Int×Int:=(l.getD 0 0,l.getD 1 0)
variable{kt:TypeId}
def Wx{kt el sz:Nat}(h:P.underlying kt=some (.array 2 el))(he:P.underlying el=some (.int .i64))(ti:TI P el sz bytes agg z)(hsz:Nat.beq sz 1=true)(hq:NK P kt (o8 (rI .i64) 2)):Pq P kt Sp where
 chk:=fun e w k=>by
  obtain⟨i,zv,hi,hs,_⟩:=ti.get
  have A:sz=1:=nU hsz
  have ha:(isAgg el).run P w= .ok false w:=by
   simp [isAgg,g9 he,Result.andThen]
  have h3: ∀(j:Nat) (x:Int) (cs:Array Value),cs[j]? =some (.int .i64 x)->(part el cs (j*i.size)).run P w= .ok (.int .i64 x) w:=fun j x cs hj=>by
   simp [part,ha,Result.andThen,hs,A,hj]
  have h4: ∀x:Int,(Instr.checkKey e 9999 el (.int .i64 x)).run P w= .ok () w:=fun x=>by
   show(Instr.checkKey e (9998+1) el (.int .i64 x)).run P w= .ok () w
   unfold Instr.checkKey
   simp only [pr,g9 he,ql]
   rfl
  have e1:=h3 0 k.1 #[.int .i64 k.1,.int .i64 k.2] rfl
  have e2:=h3 1 k.2 #[.int .i64 k.1,.int .i64 k.2] rfl
  show(Instr.checkKey e (9999+1) kt (Sp k)).run P w= .ok () w
  unfold Instr.checkKey
  simp only [Sp,pr,g9 h,ql,Std.Legacy.Range.forIn_eq_forIn_range',Std.Legacy.Range.size,Nat.sub_zero,Nat.add_sub_cancel,Nat.div_one,List.range'_succ,List.range'_zero,List.forIn_cons,List.forIn_nil,sizeOf,typeInfo,hi,BO,Nat.zero_mul,pz,Nat.one_mul]
  simp only [Nat.zero_mul,Nat.one_mul]at e1 e2
  simp [e1,e2,h4,Result.andThen,hi]
 eql:=fun w a b=>by
  have:=hq.run (fun _=>none) [.int .i64 a.1,.int .i64 a.2] [.int .i64 b.1,.int .i64 b.2] [a.1,a.2] [b.1,b.2] 9980 w ⟨rfl,[_],[_],rfl,rfl,[_],[],rfl,rfl,rfl⟩ ⟨rfl,[_],[_],rfl,rfl,[_],[],rfl,rfl,rfl⟩
  have e1:decide (([a.1,a.2]:List Int)=[b.1,b.2])=decide (a=b):=by
   obtain⟨a1,a2⟩:=a;obtain⟨b1,b2⟩:=b;simp
  rw [e1]at this
  show(Op.equalIn (9980+20) kt (Sp a) (Sp b)).run P w=_
  exact this
 wide:=by rw [h]
 same:=fun k=>by
  show Instr.sameBits (9999+1) (Sp k) (Sp k)=true
  unfold Instr.sameBits Sp
  simp only [List.zip_cons_cons,List.zip_nil_left,qk,List.all_nil]
  unfold Instr.sameBits
  simp
 inj:=fun a b h=>by
  obtain⟨a1,a2⟩:=a;obtain⟨b1,b2⟩:=b
  simpa [Sp] using h
variable{S:SH}{kv:κ->Value}
section
variable [DecidableEq κ]{k:κ}
def Le{w:World}{S:SH}{k:κ}(hk:Pq P kt kv): ∀{es:List MapEntry} {m:List (κ×β)} (i:Nat),th γ kv S es m->
  ∃u,(Instr.findAsking kt (kv k) es i).run P w= .ok u w/\((u=none/\(∀x∈es,x.key≠kv k)/\fP m k=none)\/ ∃(j:Nat) (e:MapEntry) (y:β),u=some (i+j,e.val)/\es[j]? =some e/\e.key=kv k/\fP m k=some y/\(γ y).p S e.val)
 |[],[],i,_=>⟨none,by simp [Instr.findAsking],.inl ⟨rfl,fun x V=>(by cases V),rfl⟩⟩
 |e::es,q::m,i,⟨A,D,h3,h4⟩=>by
  by_cases hq:k=q.1
  ·subst hq
   refine⟨some (i,e.val),?_,.inr ⟨0,e,q.2,rfl,rfl,A,by unfold fP;rw [bD rfl],D⟩⟩
   unfold Instr.findAsking
   simp [A,hk.eql,Result.andThen]
  ·obtain⟨u,g1,g2⟩:=Le hk (k:=k) (w:=w) (i+1) h4
   refine⟨u,?_,?_⟩
   ·unfold Instr.findAsking
    simp [A,hk.eql,hq,Result.andThen,g1]
   ·have hm:fP (q::m) k=fP m k:=by conv=>lhs;unfold fP;rw [bv (fun e=>hq e.symm)]
    rw [hm]
    rcases g2 with⟨e1,e2,e3⟩|⟨j,e',y,e1,e2,e3,e4,e5⟩
    ·refine .inl ⟨e1,fun x V=>?_,e3⟩
     rcases eW.1 V with rfl|V
     ·rw [A];exact fun e=>hq (hk.inj _ _ e).symm
     ·exact e2 x V
    ·exact .inr ⟨j+1,e',y,by rw [e1];congr 2;omega,by simpa using e2,e3,e4,e5⟩
def MF{q k:κ}{y:β}(hk:q≠k): ∀(m:List (κ×β)),(∀p∈m,p.1≠q)-> ∀p∈ir m k y,p.1≠q:=by
 intro m
 induction m with
 |nil=>intro _ p hp;rw [xN.1 hp];exact fun e=>hk e.symm
 |cons p0 m ih=>
  intro hm p hp
  unfold ir at hp
  split at hp
  ·rcases eW.1 hp with rfl|hp
   ·exact fun e=>hk e.symm
   ·exact hm p (ma _ hp)
  ·rcases eW.1 hp with rfl|hp
   ·exact hm _ (lL ..)
   ·exact ih (fun p hp=>hm p (ma _ hp)) p hp
def EI(hinj: ∀a b,kv a=kv b->a=b){y:β}{v:Value}{born:Nat}(hv:(γ y).p S v): ∀{es:List MapEntry} {m:List (κ×β)},th γ kv S es m->(∀x∈es,x.key≠kv k)->th γ kv S (es++[⟨kv k,v,born⟩]) (ir m k y)
 |[],[],_,_=>⟨rfl,hv,fun _ h=>(by cases h),trivial⟩
 |e::es,q::m,⟨A,D,h3,h4⟩,hn=>by
  have hq:q.1≠k:=fun e' =>hn e (lL ..) (by rw [A,e'])
  have hm:ir (q::m) k y=q::ir m k y:=by conv=>lhs;unfold ir;rw [bv hq]
  rw [hm]
  exact⟨A,D,MF hq m h3,EI hinj hv h4 fun x V=>hn x (ma _ V)⟩
def GF(hinj: ∀a b,kv a=kv b->a=b){y:β}{v:Value}(hv:(γ y).p S v): ∀{es:List MapEntry} {m:List (κ×β)},th γ kv S es m-> ∀j e,es[j]? =some e->e.key=kv k->th γ kv S (es.modify j fun e=>{e with key:=kv k,val:=v}) (ir m k y)
 |[],[],_,j,e,he,_=>by cases he
 |e0::es,q::m,⟨A,D,h3,h4⟩,j,e,he,hek=>by
  cases j with
  |zero=>
   have he' :e0=e:=oD he
   subst he'
   have hq:q.1=k:=hinj _ _ (by rw [<-A,hek])
   have hm:ir (q::m) k y=(k,y)::m:=by conv=>lhs;unfold ir;rw [bD hq]
   rw [hm,List.modify_zero_cons]
   exact⟨rfl,hv,fun p hp=>by rw [<-hq];exact h3 p hp,h4⟩
  |succ j=>
   have he' :es[j]? =some e:=by simpa using he
   obtain⟨y',hy'⟩: ∃q' ∈m,q'.1=k:=by
    have hmem: ∀{es:List MapEntry} {m:List (κ×β)},th γ kv S es m-> ∀(j:Nat) (e:MapEntry),es[j]? =some e->e.key=kv k-> ∃q' ∈m,q'.1=k:=by
     intro es
     induction es with
     |nil=>intro m _ j e he _;simp at he
     |cons e1 es ih=>
      intro m hm j e he hek
      cases m with
      |nil=>exact hm.elim
      |cons q1 m=>
       obtain⟨g1,_,_,g4⟩:=hm
       cases j with
       |zero=>
        have e2:e1=e:=oD he
        subst e2
        exact⟨q1,lL ..,hinj _ _ (by rw [<-g1,hek])⟩
       |succ j=>
        obtain⟨q',a1,a2⟩:=ih g4 j e (by simpa using he) hek
        exact⟨q',ma _ a1,a2⟩
    exact hmem h4 j e he' hek
   have hq:q.1≠k:=fun e' =>h3 y' hy'.1 (by rw [hy'.2,e'])
   have hm:ir (q::m) k y=q::ir m k y:=by conv=>lhs;unfold ir;rw [bv hq]
   rw [hm,Cc]
   exact⟨A,D,MF hq m h3,GF hinj hv h4 j e he' hek⟩
def dE(γ:β->Ty)(kv:κ->Value)(b:Nat)(m:List (κ×β)):OE where
 fp:=fun j=>j=b
 p:=fun w S=>S b=none/\ ∃es clock,w.heap[b]? =some (.map es clock)/\th γ kv S es.toList m
 here:=by
  intro w S ⟨_,es,clock,h3,_⟩ j hj
  subst hj
  exact(yI.1 h3).1
 kept:=by
  intro C w w' S S' ⟨A,es,clock,h3,h4⟩ k hC
  have hlt:=(yI.1 h3).1
  exact⟨by rw [k.old b hlt (hC b rfl)];exact A,es,clock,by rw [k.heap b hlt (hC b rfl)];exact h3,uX k.keep h4⟩
end
variable{et:TypeId}{rest:List Oper}
section
variable [DecidableEq κ]{k:κ}{x i:Operand}{dst:Option Nat}
def JS(γ:β->Ty)(kv:κ->Value)(hd:Nat.blt d E.N.n=true)(k: ∀b,RG E ops tV rest (dE γ kv b []::O) ((d,Q (ak b))::G)):
  RG E ops tV (⟨some d,.makeMap t none,ty,pos,after,none⟩::rest) O G:= .of rfl fun a w S st=>by
 obtain⟨he,hs',hno⟩:=jw (w:=w) (.map #[] 0) st.sat
 have hrun:(execOp a.eval ⟨some d,.makeMap t none,ty,pos,after,none⟩).run E.P w= .ok (.value (ak w.heap.size)) (w.alloc (.map #[] 0)):=by
  simp [execOp,Instr.makeMap,ak]
 refine⟨fun c h=>(by cases h),?_⟩
 rw [hrun]
 exact k w.heap.size _ _ S ⟨st.ext.step0 he,hs',rk st.own he ⟨hno,#[],0,xW w _,trivial⟩ (fun b H=>BL H.symm) st.base_le,st.facts.put hd rfl⟩
def TF{y:β}(hm:E.P.underlying t=some (.map kt et))(hk:Pq E.P kt kv)(V:aE E.N G x (Q (ak b)))(hi:vC E.N G i (kv k))(hv:aE E.N G v (γ y))
  (h:RG E ops tV rest (dE γ kv b (ir m k y)::O) G):RG E ops tV (⟨none,.mapUpdate t x i v,ty,pos,after,none⟩::rest) (dE γ kv b m::O) G:= .of rfl fun a w S st=>by
 have A:a.eval x=ak b:=V S a st.facts
 have D:a.eval i=kv k:=hi S a st.facts
 have h3:(γ y).p S (a.eval v):=hv S a st.facts
 obtain⟨⟨hno,es,clock,h5,h6⟩,_⟩:=st.own.1
 have hlt:=(yI.1 h5).1
 obtain⟨u,g1,g2⟩:=Le hk (k:=k) (w:=w) 0 h6
 have hfk:(Instr.findKey kt (kv k) es.toList).run E.P w= .ok u w:=by rw [run_findKey_eq w hk.wide];exact g1
 obtain⟨X,hrun,hX⟩: ∃X:Obj,(Instr.mapUpdate t (ak b) (kv k) (a.eval v)).run E.P w= .ok () {w with heap:=w.heap.setIfInBounds b X}/\ ∃es' cl',X= .map es' cl' /\th γ kv S es'.toList (ir m k y):=by
  rcases g2 with⟨rfl,g3,g4⟩|⟨j,e,y',rfl,g3,g4,_,_⟩
  ·refine⟨.map (es.push ⟨kv k,a.eval v,clock⟩) (clock+1),?_,_,_,rfl,by rw [Array.toList_push];exact EI hk.inj h3 h6 g3⟩
   simp [Instr.mapUpdate,ak,g9 hm,Ic h5,hk.chk,hfk,Result.andThen,L8 _ h5]
  ·refine⟨.map (es.modify j fun e=>{e with key:=kv k,val:=a.eval v}) clock,?_,_,_,rfl,by rw [Array.toList_modify];exact GF hk.inj h3 h6 j e g3 g4⟩
   have hgd:((es[j]?).map (·.key)).getD (kv k)=kv k:=by
    rw [<-L5,g3];exact g4
   simp only [pz]at hfk
   simp [Instr.mapUpdate,ak,g9 hm,Ic h5,hk.chk,hfk,Result.andThen,hgd,Instr.keyThatStays,hk.same,L8 _ h5]
 have hrun' :(execOp a.eval ⟨none,.mapUpdate t x i v,ty,pos,after,none⟩).run E.P w= .ok .skip {w with heap:=w.heap.setIfInBounds b X}:=by simp [execOp,A,D,hrun]
 obtain⟨es',cl',rfl,h7⟩:=hX
 refine⟨fun c h=>(by cases h),?_⟩
 rw [hrun']
 obtain⟨q1,q2⟩:=MapKept.heap_set (o' := .map es' cl') h5
 obtain⟨f1,f2,f3⟩:=kM (O:=O) st.sat (w' :={w with heap:=w.heap.setIfInBounds b (.map es' cl')}) (dE γ kv b m) (dE γ kv b (ir m k y)) st.own (fun _=>rJ) (fun _=>rJ) ⟨rfl,rfl,rfl,by simp,eO _⟩ (fun j hj=>q2 j hj) ⟨hno,es',cl',q1,h7⟩ hno
 exact h _ _ S ⟨st.ext.step f1 (fun c hc=>st.own.1.2 c hc),f2,f3,st.facts⟩
end

section
variable [DecidableEq κ]{k:κ}{x i:Operand}{dst:Option Nat}
end
variable{os:Array Obj}
section
variable [DecidableEq κ]{hx:MV β}{os:List (Option Nat×Nat)}{h:Option κ}{x:Operand}{dst:Option Nat}
end
section
variable{e:Exit}
end


structure RM{α β:Type}(tD:Nat)(F:Rp α->Rp β):Prop where
 sz: ∀r r',r.sz=tD->r'.sz=tD->(F r).sz=(F r').sz
 mono: ∀r r',r.sz=tD->r'.sz=tD->(∀S cs x,r.rc S cs x->r'.rc S cs x)-> ∀S cs x,(F r).rc S cs x->(F r').rc S cs x
 cont: ∀(R:Nat->Rp α),(∀n,(R n).sz=tD)->(∀n S cs x,(R n).rc S cs x->(R (n+1)).rc S cs x)-> ∀r,r.sz=tD->(∀S cs x,r.rc S cs x-> ∃n,(R n).rc S cs x)-> ∀S cs x,(F r).rc S cs x-> ∃n,∀m,n<=m->(F (R m)).rc S cs x
def RM.map{γ:Type}{tD:Nat}{F:Rp α->Rp β}(f:γ->β)(h:RM tD F):RM tD (fun r=>iM (F r) f):=
 ⟨fun r r' A D=>h.sz r r' A D,fun r r' A D h3 S cs x q=>h.mono r r' A D h3 S cs (f x) q,fun R hR up r hr h3 S cs x q=>h.cont R hR up r hr h3 S cs (f x) q⟩

section
variable{c:Code}{e:Exit}
end

variable{ys:List α}
section
def Ms{q:Rp α}(hq:q.sz=1){cs:List Value}{m:Nat}(h:qA q S cs xs)(hm:m<=xs.length):qA q S (cs.take m) (xs.take m)/\qA q S (cs.drop m) (xs.drop m):=by
 have:=oq (xs:=xs.take m) (ys:=xs.drop m) (by rw [qU];exact h)
 rwa [yE,zE hm,hq,Db]at this
def tm{α:Type}(xs ys:List α):List α:=ys.take xs.length++xs.drop (min ys.length xs.length)
def u0:(tm xs ys).length=xs.length:=by
 unfold tm
 simp
 omega
end
variable{mm:Bool}
section
variable{c:Code}
def NT{lo hi:Int}(hs:cO xs lo hi=some ys)(h:xU mm r U l cap xs w S)(hS:kp w S): ∃S1,kp w S1/\(K (ek r) ys).p S1 (mn r.sz l cap lo.toNat ys.length):=by
 obtain⟨S1,_,k2,hd⟩:=Yn h hS
 refine⟨S1,k2,?_⟩
 obtain⟨l',m,rfl,rfl,h7,h8,rfl⟩:=fv hs
 obtain⟨ad,c,A,D,h3,h4⟩:=ln.1 hd
 have hlen:((xs.take m).drop l').length=m-l' :=by simp;omega
 cases l with
 |none=>
  obtain⟨cells,g1,_⟩:=h
  have V:xs=[]:=vE g1.1
  subst V
  have e:((([]:List α).take m).drop l')=[]:=by simp
  rw [e]
  exact zR
 |some b=>
  have e1:Value.slice (some ⟨b,0,none⟩) xs.length cap= .slice ad xs.length c:=A
  injection e1 with e2 _ e3
  subst e2
  subst e3
  have h5:=yS h4 h7 h8 D
  refine ln.2 ⟨_,cap-l',?_,by omega,by omega,h5⟩
  unfold mn
  simp only [zL,hlen,De,gK,pz]
  split<;>rfl
def R4{sz:Nat}(ti:TI P T sz bytes agg z):(P.info? T).map (·.size)=some sz:=by
 obtain⟨i,_,hi,hs,_⟩:=ti.get
 simp [hi,hs]
def Ok{α:Type}:Rp α where
 sz:=1
 agg:=false
 rc:=fun _ cs _=> ∃v,cs=[v]/\v.oneCell' =true
 mono:=fun _ h=>h
 len:=fun⟨v,h,_⟩=>by rw [h];rfl
 one:=fun⟨v,h,k⟩ c hc=>by rw [h]at hc;simp at hc;subst hc;exact k
 sc:=fun _=>rfl
def zm{l:List α}{e:α}(h:xs.drop i=e::l):(i:Int)<(xs.length:Int):=by
 have:=congrArg List.length h
 simp at this
 omega
def kh{n:Nat}{x ix:Operand}{y:α}{k:IntKind}{i:Int}{sz:Nat}(M:E.P.underlying t=some (.slice e))(ti:TI E.P e sz bytes agg z)(hm:jR mm r U l cap xs∈O)(V:aE E.N G x (Q (Y l cap n)))(hi:aE E.N G ix (K (rI k) i))(hy:fg xs i=some y)(hlt:i<(n:Int)):
  bP E O G ⟨dst,.indexAddr t x ix,ty,pos,after,g⟩ (Q (cJ l (i.toNat*sz+0))):=
 .of_pure fun a w S _ ho hf=>by
  have A:a.eval x=Y l cap n:=V S a hf
  have h3:a.eval ix= .int k i:=eF.1 (hi S a hf)
  obtain⟨h0,hy'⟩:=iF hy
  obtain⟨b,cur,rfl,_⟩:=o7 (ho.mem _ hm).1 hy'
  refine⟨_,?_,rfl⟩
  have hc:0<=i/\i<(n:Int):=⟨h0,hlt⟩
  simp [execOp,A,h3,Y,Instr.indexAt,asIntOf,g9 M,hc,ti.sizeOf,gK,cJ,ai]
end

def EM{zs:List α}(h:tm xs ys=zs):zs.length=xs.length:=by rw [<-h,u0]

def jc(p:bZ×bZ):Value:= .agg #[dp p.1,dp p.2]
def Yp{kt el sz:Nat}{l:Array Field} [DecidableEq α]{mk:bZ×bZ->α}(h:P.underlying kt=some (.struct l))(hl:l.toList.map (fun f=>(f.type,f.offset))=[(el,0),(el,1)])(he:P.underlying el=some .string)(ti:TI P el sz bytes agg z)(hsz:Nat.beq sz 1=true)(hag:r.agg=true)(hr: ∀p:bZ×bZ,r.rc (fun _=>none) [dp p.1,dp p.2] (mk p))(hinj: ∀p q,mk p=mk q->p=q)(hq:NK P kt r):Pq P kt jc where
 chk:=fun e w k=>by
  obtain⟨i,zv,hi,hs,_⟩:=ti.get
  have A:sz=1:=nU hsz
  have ha:(isAgg el).run P w= .ok false w:=by
   simp [isAgg,g9 he,Result.andThen]
  have h3: ∀(j:Nat) (x:bZ) (cs:Array Value),cs[j]? =some (dp x)->(part el cs j).run P w= .ok (dp x) w:=fun j x cs hj=>by
   simp [part,ha,Result.andThen,hj]
  have h4: ∀x:bZ,(Instr.checkKey e 9999 el (dp x)).run P w= .ok () w:=fun x=>by
   show(Instr.checkKey e (9998+1) el (dp x)).run P w= .ok () w
   unfold Instr.checkKey
   simp only [pr,g9 he,ql]
   rfl
  have e1:=h3 0 k.1 #[dp k.1,dp k.2] rfl
  have e2:=h3 1 k.2 #[dp k.1,dp k.2] rfl
  obtain⟨l0,rfl⟩: ∃l0:List Field,l=l0.toArray:=⟨l.toList,by simp⟩
  have hlen:l0.length=2:=by simpa using congrArg List.length hl
  obtain⟨f0,f1,rfl⟩: ∃f0 f1,l0=[f0,f1]:=by
   match l0,hlen with
   |[a,b],_=>exact⟨a,b,rfl⟩
  simp only [qT,BM,List.cons.injEq,FH,and_true]at hl
  obtain⟨⟨a0,b0⟩,⟨a1,b1⟩⟩:=hl
  show(Instr.checkKey e (9999+1) kt (jc k)).run P w= .ok () w
  unfold Instr.checkKey
  simp only [jc,pr,g9 h,ql]
  by_cases n0:f0.name= "_" <;>by_cases n1:f1.name= "_" <;>simp [n0,n1,a0,a1,b0,b1,e1,e2,h4,Result.andThen]
 eql:=fun w a b=>by
  have:=hq.run (fun _=>none) _ _ _ _ 9980 w (hr a) (hr b)
  have e1:decide (mk a=mk b)=decide (a=b):=xL.2 ⟨fun e=>hinj a b e,fun e=>by rw [e]⟩
  rw [e1]at this
  have hv: ∀p:bZ×bZ,r.val [dp p.1,dp p.2]=jc p:=fun p=>by simp [Rp.val,hag,jc]
  rw [hv,hv]at this
  show(Op.equalIn (9980+20) kt (jc a) (jc b)).run P w=_
  exact this
 wide:=by rw [h]
 same:=fun k=>by
  show Instr.sameBits (9999+1) (jc k) (jc k)=true
  unfold Instr.sameBits jc dp
  simp only [List.zip_cons_cons,List.zip_nil_left,qk,List.all_nil]
  unfold Instr.sameBits
  simp
  have H: ∀l:ByteArray,(l==l)=true:=fun l=>by
   cases l with
   |mk d=>exact(xZ d:(d==d)=true)
  exact⟨H _,H _⟩
 inj:=fun a b h=>by
  obtain⟨a1,a2⟩:=a;obtain⟨b1,b2⟩:=b
  simpa [jc,dp] using h
section
variable [DecidableEq κ]{k:κ}{x i:Operand}{dst:Option Nat}
def QI{x:Operand}{y:α}{p:bZ×bZ}(hag:r.agg=true)(hr: ∀S cs,r.rc S cs y->cs=[dp p.1,dp p.2])(h:aE N G x (K r y)):vC N G x (jc p):=fun S a hf=>by
 obtain⟨cs,e,A⟩:=h S a hf
 rw [e,hr S cs A]
 simp [Rp.val,hag,jc]
def I3{z:β}{zv:Value}(hm:E.P.underlying t=some (.map kt et))(hk:Pq E.P kt kv)(hz:ZV E.P et zv)(hzt: ∀S,(γ z).p S zv)(hmem:dE γ kv b m∈O)(V:aE E.N G x (Q (ak b)))(hi:vC E.N G i (kv k)):
  bP E O G ⟨dst,.lookup t x i true,ty,pos,after,g⟩ (tT [γ ((fP m k).getD z),K rB (fP m k).isSome]):= .of_pure fun a w S hs ho hf=>by
 obtain⟨⟨_,es,clock,h3,h4⟩,_⟩:=cN.mem ho _ hmem
 have A:a.eval x=ak b:=V S a hf
 have D:a.eval i=kv k:=hi S a hf
 obtain⟨u,g1,g2⟩:=Le hk (k:=k) (w:=w) 0 h4
 have hfk:(Instr.findKey kt (kv k) es.toList).run E.P w= .ok u w:=by rw [run_findKey_eq w hk.wide];exact g1
 rcases g2 with⟨rfl,_,g3⟩|⟨j,e,y,rfl,_,_,g3,g4⟩
 ·refine⟨.tuple #[zv,.bool false],?_,_,rfl,by rw [g3];exact hzt S,by rw [g3];exact i6.2 rfl,trivial⟩
  simp [execOp,A,D,Instr.lookup,ak,g9 hm,Ic h3,hk.chk,hfk,hz.run,Result.andThen]
 ·refine⟨.tuple #[e.val,.bool true],?_,_,rfl,by rw [g3];exact g4,by rw [g3];exact i6.2 rfl,trivial⟩
  simp [execOp,A,D,Instr.lookup,ak,g9 hm,Ic h3,hk.chk,hfk,Result.andThen]
def O0{os:List (Option Nat×Nat)}{m:List (κ×List α)}(hm:E.P.underlying t=some (.map kt et))(hk:yB E.P kt kv)(hz:ZV E.P et (.slice none 0 0))(V:aE E.N G x (Q (ak b)))(hi:vC E.N G i (kv k)):
  EffOK E (bo (T0 r T) kv b none os m::O) G ⟨some d,.lookup t x i false,ty,pos,after,g⟩ (fun j=>Z r T (j.h 0).1 (j.h 0).2 ((fP m k).getD [])::bo (T0 r T) kv b (some k) j.os m::O) (fun j=>tO r (j.h 0).1 (j.h 0).2 ((fP m k).getD [])):=fun a w S hs ho hf H=>by
 obtain⟨⟨⟨hno,hnb,es,clock,h3,h4,hst⟩,hfp⟩,hap,hO⟩:=ho
 obtain⟨q,hq,hdk,hinj⟩:=hk
 have A:a.eval x=ak b:=V S a hf
 have D:a.eval i=kv k:=hi S a hf
 obtain⟨os',p1,p2,h5⟩:=od hdk hinj (k:=k) 0 h4
 have hn: ∀o∈os',o.1≠some b:=fun o ho=>by
  rcases p1 o ho with h|h
  ·exact hnb o h
  ·rw [h];exact fun e=>by cases e
 have hfp' : ∀j,(j=b\/ ∃o∈os',o.1=some j)->(j=b\/ ∃o∈os,o.1=some j):=fun j hj=>hj.imp id fun⟨o,ho,e⟩=>by
  rcases p1 o ho with h|h
  ·exact⟨o,h,e⟩
  ·rw [h]at e;cases e
 rcases h5 with⟨g1,g2⟩|⟨y,o,e,j,g1,g2,g3,g4,g5⟩
 ·have hrun:(execOp a.eval ⟨some d,.lookup t x i false,ty,pos,after,g⟩).run E.P w= .ok (.value (.slice none 0 0)) w:=by simp [execOp,A,D,jq hm hq (hdk k) h3 hz g2]
  refine⟨fun c h=>(by cases h),?_⟩
  rw [hrun]
  exact⟨_,S,{h:=fun _=>(none,0),os:=os' },rfl,jl.refl _ _ _,hs,⟨⟨⟨[],⟨by rw [g1];rfl,rfl⟩,by rw [g1];rfl,fun b H=>(by cases H)⟩,fun j hj=>(by cases hj)⟩,fun f _ j hj=>(by cases hj),⟨⟨hno,hn,es,clock,h3,p2,hst⟩,fun j hj=>hfp j (hfp' j hj)⟩,fun f hf j hj=>hap f hf j (hfp' j hj),hO⟩,
   by rw [g1];rfl,by rw [g1];exact zR⟩
 ·have hrun:(execOp a.eval ⟨some d,.lookup t x i false,ty,pos,after,g⟩).run E.P w= .ok (.value e.val) w:=by simp [execOp,A,D,jq hm hq (hdk k) h3 hz g4]
  refine⟨fun c h=>(by cases h),?_⟩
  rw [hrun]
  have hy:(fP m k).getD []=y:=by rw [g1];rfl
  refine⟨_,S,{h:=fun _=>o,os:=os' },rfl,jl.refl _ _ _,hs,⟨⟨by rw [hy];exact g3.2,fun j hj=>hfp j (.inr ⟨o,g2,hj⟩)⟩,fun f hf j hj=>?_,⟨⟨hno,hn,es,clock,h3,p2,hst⟩,fun j hj=>hfp j (hfp' j hj)⟩,fun f hf j hj=>hap f hf j (hfp' j hj),hO⟩,
   by rw [hy];exact g3.1,by rw [hy,g3.1];exact kF g3.2⟩
  rcases eW.1 hf with rfl|hf
  ·intro hj'
   rcases hj' with rfl|⟨o',ho',e'⟩
   ·exact hnb o g2 hj
   ·exact g5 o' ho' j hj e'
  ·exact hap f hf j (.inr ⟨o,g2,hj⟩)
end
def Lw{q:Rp α}{zs:List α}{x y:Operand}{dT sT el:TypeId}(hq:q.sz=1)(hu:E.P.underlying dT=some (.slice el))(hs:(E.P.info? el).map (·.size)=some 1)(V:aE E.N G x (Q (Y l cap xs.length)))(hy: ∀a w S,kp w S->cN E.base E.B w S (d7 q U l cap xs::O)->cu E.N S a G-> ∃S1,kp w S1/\(K (ek q) ys).p S1 (a.eval y)/\ ∀cs zs,qA q S1 cs zs->qA q S cs (zs:List α))(hz:tm xs ys=zs):
  EffOK E (d7 q U l cap xs::O) G ⟨some d,.call ⟨.builtin .copy,#[x,y],#[dT,sT]⟩,ty,pos,after,g⟩ (fun _=>d7 q U l cap zs::O) (fun _=>K (rI .i64) ((min ys.length xs.length:Nat):Int)):=fun a w S hs0 ho hf H=>by
 subst hz
 have A:a.eval x=Y l cap xs.length:=V S a hf
 obtain⟨S1,hs1,hy1,hback⟩:=hy a w S hs0 ho hf
 obtain⟨ad,cap',D,_,_,h3⟩:=ln.1 hy1
 obtain⟨⟨cells,hraw,hrc,hS⟩,hbase⟩:=ho.1
 have hm:min ys.length xs.length<=ys.length:=Nat.min_le_left _ _
 cases l with
 |none=>
  have hx0:xs=[]:=vE hraw.1
  subst hx0
  have hrun:(Builtin.copy_ #[dT,sT] ty #[.slice none 0 0,a.eval y]).run E.P w= .ok (goInt 0) w:=by
   rw [D]
   cases hel:E.P.info? el with
   |none=>simp [hel]at hs
   |some i=>
    have hi:i.size=1:=by simpa [hel] using hs
    cases ad with
    |none=>simp [Builtin.copy_,g9 hu,Builtin.lenOf,Builtin.firstCells,sizeOf,typeInfo,hel,hi,storeCells]
    |some p=>
     have hl:=run_loadCells_list (P:=E.P) w p [] (fun j v hv=>by simp at hv)
     simp only [pB]at hl
     simp [Builtin.copy_,g9 hu,Builtin.lenOf,Builtin.firstCells,sizeOf,typeInfo,hel,hi,storeCells,hl]
  have hx' :(execOp a.eval ⟨some d,.call ⟨.builtin .copy,#[x,y],#[dT,sT]⟩,ty,pos,after,g⟩).run E.P w= .ok (.value (goInt 0)) w:=by
   have h1' :a.eval x= .slice none 0 0:=A
   simp [execOp,resolve,h1',invoke,builtin,hrun]
  refine⟨fun c h=>(by cases h),?_⟩
  rw [hx']
  refine⟨_,S,nj,rfl,jl.refl _ _ _,hs0,?_,?_⟩
  ·have e:tm ([]:List α) ys=[]:=by unfold tm;simp
   rw [e];exact ho
  ·exact eF.2 (by simp [goInt])
 |some b=>
  obtain⟨cur,g1,g2,g3,g4,g5⟩:=hraw
  rw [hq,Db]at g4 g5
  have h1' :a.eval x= .slice (some ⟨b,0,none⟩) xs.length cap:=A
  have hxl:xs.length<=cur.toList.length:=by simp [g4];exact g2
  obtain⟨cs,hcs,hrun,hlen⟩: ∃cs,qA q S cs (ys.take (min ys.length xs.length))/\(Builtin.copy_ #[dT,sT] ty #[.slice (some ⟨b,0,none⟩) xs.length cap,a.eval y]).run E.P w= .ok (goInt cs.length) (w.setRow b (cs++cur.toList.drop cs.length).toArray)/\cs.length=min ys.length xs.length:=by
   rw [D]
   rcases h3 with rfl|⟨b',off,c,T',fr,rfl,e2,e3⟩
   ·refine⟨[],by simp [qA],?_,by simp⟩
    cases hel:E.P.info? el with
    |none=>simp [hel]at hs
    |some i=>
     have hi:i.size=1:=by simpa [hel] using hs
     have hself:w.setRow b (([]:List Value)++cur.toList.drop ([]:List Value).length).toArray=w:=by simpa using setRow_self w b cur U (0,0) g1
     rw [hself]
     cases ad with
     |none=>simp [Builtin.copy_,g9 hu,Builtin.lenOf,Builtin.firstCells,sizeOf,typeInfo,hel,hi,storeCells]
     |some p=>
      have hl:=run_loadCells_list (P:=E.P) w p [] (fun j v hv=>by simp at hv)
      simp only [pB]at hl
      simp [Builtin.copy_,g9 hu,Builtin.lenOf,Builtin.firstCells,sizeOf,typeInfo,hel,hi,storeCells,hl]
   ·obtain⟨c',h8,h9⟩:=hs1.part e2 (kC e3)
    obtain⟨d1,d2⟩:=Ms hq e3 hm
    rw [vg,hq,Db,zE hm]at d1
    have hl:((c.toList.drop off).take (min ys.length xs.length)).length=min ys.length xs.length:=by
     rw [kC d1,hq,Db,yE,zE hm]
    refine⟨_,hback _ _ d1,?_,hl⟩
    have:=run_copy_row (P:=E.P) w dT sT ty el b 0 xs.length cap ⟨b',off,none⟩ ys.length cap' cur U ((c.toList.drop off).take (min ys.length xs.length)) hu hs g1 hl (fun j v hv=>?_) (by rw [hl];simp at hxl;omega) (z6 d1)
    ·simpa using this
    ·have hj:j<min ys.length xs.length:=by rw [<-hl];exact(qB.1 hv).1
     have hcell:w.cell? ⟨b',off+j,none⟩=c'[off+j]? :=xx h8 _
     rw [gK]
     show w.cell? ⟨b',off+j,none⟩=_
     rw [hcell]
     have h10:((c'.toList.drop off).take (ys.length*q.sz))[j]? =((c.toList.drop off).take (ys.length*q.sz))[j]? :=by rw [h9]
     rw [AR (by rw [hq];omega),AR (by rw [hq];omega),vD,vD]at h10
     rw [AR hj,vD]at hv
     rw [<-hv,<-L5,h10]
  have hx' :(execOp a.eval ⟨some d,.call ⟨.builtin .copy,#[x,y],#[dT,sT]⟩,ty,pos,after,g⟩).run E.P w= .ok (.value (goInt cs.length)) (w.setRow b (cs++cur.toList.drop cs.length).toArray):=by
   simp [execOp,resolve,h1',invoke,builtin,hrun]
  refine⟨fun c h=>(by cases h),?_⟩
  rw [hx']
  have hle:min ys.length xs.length<=xs.length:=Nat.min_le_right _ _
  have hrc' :qA q S (cur.toList.take xs.length) xs:=by rw [g5];exact hrc
  obtain⟨_,d4⟩:=Ms hq hrc' hle
  have hno:S b=none:=hS b rfl
  have hnew:xU false q U (some b) cap (tm xs ys) (w.setRow b (cs++cur.toList.drop cs.length).toArray) S:=by
   refine⟨(cs++cur.toList.drop cs.length).take xs.length,⟨_,setRow_heap w b cur _ U _ g1,by rw [u0];exact g2,g3,?_,by rw [u0,hq,Db]⟩,?_,fun b' hb' =>by cases hb';exact hno⟩
   ·simp [hlen,hq];simp at hxl;omega
   ·unfold tm
    have e1:ys.take xs.length=ys.take (min ys.length xs.length):=by rw [List.take_eq_take_iff];omega
    have e2:(cs++cur.toList.drop cs.length).take xs.length=cs++(cur.toList.take xs.length).drop cs.length:=by
     rw [List.take_append,nv (by omega),zJ]
    rw [e1,e2,hlen]
    exact rZ hcs d4
  obtain⟨k1,k2,k3⟩:=kM (O:=O) hs0 (w' :=w.setRow b (cs++cur.toList.drop cs.length).toArray) (d7 q U (some b) cap xs) (d7 q U (some b) cap (tm xs ys)) ho (fun k=>by simp [d7,jR];exact eq_comm) (fun k=>by simp [d7,jR];exact eq_comm) ⟨rfl,rfl,rfl,by simp [World.setRow],eO _⟩ (fun k hk=>setRow_other w b k _ hk) hnew hno
  refine⟨_,S,nj,rfl,k1.more fun k hk=>⟨_,lL ..,by subst hk;rfl⟩,k2,k3,?_⟩
  rw [hlen]
  exact eF.2 rfl
def Lv{k:IntKind}{hx:TypeId}{l2:Option Nat}{cap2:Nat}{xs ys zs ws:List Int}{lo hi:Int}{x y:Operand}{dT sT el:TypeId}(hm:jR mm (rI k) hx l2 cap2 ws∈d7 (rI k) U l cap xs::O)(hsl:cO ws lo hi=some ys)(hu:E.P.underlying dT=some (.slice el))(hs:(E.P.info? el).map (·.size)=some 1)(V:aE E.N G x (Q (Y l cap xs.length)))(hy:aE E.N G y (Q (mn 1 l2 cap2 lo.toNat ys.length)))(hz:tm xs ys=zs):
  EffOK E (d7 (rI k) U l cap xs::O) G ⟨some d,.call ⟨.builtin .copy,#[x,y],#[dT,sT]⟩,ty,pos,after,g⟩ (fun _=>d7 (rI k) U l cap zs::O) (fun _=>K (rI .i64) ((min ys.length xs.length:Nat):Int)):=
 Lw rfl hu hs V (fun a w S hs0 ho hf=>by
  obtain⟨S1,A,D⟩:=NT hsl (cN.mem ho _ hm).1 hs0
  refine⟨S1,A,?_,fun cs zs h=>by rw [D4 h];exact(D4 h)▸IU (fun h=>h) h⟩
  rw [show a.eval y=mn 1 l2 cap2 lo.toNat ys.length from hy S a hf]
  exact D) hz
abbrev Mb:Option Nat×Nat:=(none,0)
def Sm(l:List (Option Nat×Nat))(os:List (List (Option Nat×Nat))):OI:={h:=fun n=>l.getD n (none,0),oss:=fun n=>os.getD n []}
def QO{get:α->Value}{cs:List Value}{x:α}(h:iZ r off rV get)(k:r.rc S cs x):cs[off]? =some (get x):=by
 have A:(cs.drop off).take 1=[get x]:=(h S cs x k).1
 rw [List.take_one,List.head?_drop]at A
 cases hc:cs[off]? with
 |none=>rw [hc]at A;cases A
 |some v=>rw [hc]at A;simpa using A

def Dt(t:Ty):Ty where
 p:=fun S v=>v.oneCell' =true/\t.p S v
 mono:=fun h ⟨e,k⟩=>⟨e,t.mono h k⟩
def Wr{t:Ty}: ∀S v,(Dt t).p S v->t.p S v:=fun _ _ h=>h.2
def UX{t:Ty}: ∀S v,(Dt t).p S v->v.oneCell' =true:=fun _ _ h=>h.1
def R8(n:FuncId)(pre post:List Ty)(b:Nat):Ty where
 p:=fun S v=> ∃us vs,v= .func (.func n) #[] (us++ai b 0::vs).toArray/\xV S pre us/\xV S post vs
 mono:=fun h ⟨us,vs,e,k1,k2⟩=>⟨us,vs,e,k1.mono h,k2.mono h⟩
variable{post pre:List Ty}
def UY: ∀S v,(R8 n pre post b).p S v->v.oneCell' =true:=fun _ _ ⟨_,_,e,_⟩=>by rw [e];rfl
def R7(n:FuncId)(pre post:List Ty)(b:Nat):Ty:=Ya (ai b 0) (bn (rT (R8 n pre post b)) ())
variable{Ob:X->OI->List OE}{args:h1->List Ty}{res:ρ->Ty}
section
def Oz{caps:List Operand}{cts:List Ty}(hc:aj E.P fid=true)(hp:iK E.N G caps cts)(hs: ∀x y R,f x y=some R-> ∀i,dZ E.P fid (args y++cts) (Ob x i) (fun _:OI=>res R.1) (fun j=>Ob R.2 j)):
  bP E O G ⟨dst,.makeFunc (.func fid) #[] caps.toArray,ty,pos,after,g⟩ (Dt (kr E.P args Ob res f)):= .of_pure fun a w S _ _ hf=>by
 have A:=hp.tys hf
 refine⟨.func (.func fid) #[] (caps.map a.eval).toArray,by simp [execOp,Instr.makeFunc],rfl,fun x y R hR=>⟨fid,#[],(caps.map a.eval).toArray,rfl,hc,fun i w' S' vs hle hsat hv ho=>?_⟩⟩
 have:=hs x y R hR i w' S' (vs++caps.map a.eval) hsat (hv.append (A.mono hle)) ho
 rw [show(#[]++vs.toArray++(caps.map a.eval).toArray:Array Value)=(vs++caps.map a.eval).toArray from by simp]
 exact this
def OA{xs ys:List Operand}{x:Operand}(A:iK E.N G xs pre)(V:aE E.N G x (Q (ai b 0)))(D:iK E.N G ys post):
  bP E O G ⟨dst,.makeFunc (.func n) #[] (xs++x::ys).toArray,ty,pos,after,g⟩ (R8 n pre post b):= .of_pure fun a w S _ _ hf=>by
 have h3:a.eval x=ai b 0:=V S a hf
 exact⟨.func (.func n) #[] ((xs++x::ys).map a.eval).toArray,by simp [execOp,Instr.makeFunc],xs.map a.eval,ys.map a.eval,by simp [h3],A.tys hf,D.tys hf⟩
def Gd{p:Operand}(ti:TI E.P U 1 bytes false z)(hp:aE E.N G p (R7 n pre post b)):bP E O G ⟨dst,.load U p,ty,pos,after,g⟩ (R8 n pre post b):=r0 ti (Wq hp)
def Gc{t:Ty}{p:Operand}(ti:TI E.P U 1 bytes false z)(hp:aE E.N G p (bn (rT (Dt t)) ())):bP E O G ⟨dst,.load U p,ty,pos,after,g⟩ t:=(r0 ti hp).imp Wr
def EJ{pst:List Ty}{fo cp:Operand}{xs:List Operand}(O1 Or:List OE){t:OI->Ty}{O2 post:OI->List OE}(hO:O=O1++Or)(hf:aE E.N G fo (R8 n pre pst b))(hcp:aE E.N G cp (R7 n pre pst b))(hc:aj E.P n=true)(hs:dZ E.P n (ts++(pre++R7 n pre pst b::pst)) O1 t O2)(V:iK E.N G xs ts)(hpost: ∀i,O2 i++Or=post i):
  EffOK E O G ⟨some d,.call ⟨.value fo,xs.toArray,ats⟩,ty,pos,after,g⟩ post t:=fun a w S hsat ho hF H=>by
 subst hO
 obtain rfl:(fun i=>O2 i++Or)=post:=funext hpost
 obtain⟨us,vs,e,A,D⟩:=hf S a hF
 have h3:(R7 n pre pst b).p S (ai b 0):=by
  have:=hcp S a hF
  exact⟨rfl,this.2⟩
 have hr:(execOp a.eval ⟨some d,.call ⟨.value fo,xs.toArray,ats⟩,ty,pos,after,g⟩).run E.P w= .ok (.enter n (xs.map a.eval++(us++ai b 0::vs)).toArray) w:=by
  simp [execOp,resolve,e,Deferred.ofValue,invoke,il hc]
 refine⟨fun c h=>(by cases h),?_⟩
 rw [hr]
 have h4:xV S (ts++(pre++R7 n pre pst b::pst)) (xs.map a.eval++(us++ai b 0::vs)):=(V.tys hF).append (A.append ⟨h3,D⟩)
 exact(hs w S _ hsat h4 (oA ho).1.weak).mono fun en w' ⟨i,v,S',he,hv,A,D,h3,h4⟩=>⟨_,he,v,S',i,rfl,A.more fun b ⟨f,hf,H⟩=>⟨f,Da _ hf,H⟩,D,cN.turn ho H A h3 h4,hv⟩
end
def RP(P:Program){h1 X ρ:Type}(args:h1->List Ty)(Ob:X->OI->List OE)(res:ρ->Ty):Rp (X->h1->Option (ρ×X)) where
 sz:=1
 agg:=false
 rc:=fun S cs f=> ∃v,cs=[v]/\v.oneCell' =true/\(kr P args Ob res f).p S v
 mono:=fun h ⟨v,e,k,k2⟩=>⟨v,e,k,(kr _ _ _ _ _).mono h k2⟩
 len:=fun⟨v,h,_⟩=>by rw [h];rfl
 one:=fun⟨v,h,k,_⟩ c hc=>by rw [h]at hc;simp at hc;subst hc;exact k
 sc:=fun _=>rfl
def UO{x:Operand}(h:aE N G x (K (RP P args Ob res) f)):aE N G x (kr P args Ob res f):=fun S a hf=>by
 obtain⟨cs,e,v,rfl,_,k⟩:=h S a hf
 rw [e];exact k
section
def rx{p:Operand}(hc:aj E.P fid=true)(hp:aE E.N G p (Q (ai b 0)))(hs: ∀x y R,f x y=some R-> ∀i,dZ E.P fid (Q (ai b 0)::args y) (Ob x i) (fun _:OI=>res R.1) (fun j=>Ob R.2 j)):
  bP E O G ⟨dst,.makeFunc (.func fid) #[p] #[],ty,pos,after,g⟩ (K (RP E.P args Ob res) f):= .of_pure fun a w S _ _ hf=>by
 have A:a.eval p=ai b 0:=hp S a hf
 refine⟨.func (.func fid) #[ai b 0] #[],by simp [execOp,Instr.makeFunc,A],[_],rfl,_,rfl,rfl,fun x y R hR=>⟨fid,#[ai b 0],#[],rfl,hc,fun i w' S' vs _ hsat hv ho=>?_⟩⟩
 have:=hs x y R hR i w' S' (ai b 0::vs) hsat ⟨rfl,hv⟩ ho
 rw [show(#[ai b 0]++vs.toArray++ #[]:Array Value)=(ai b 0::vs).toArray from by simp]
 exact this
end
variable{x0 x1 x10 x11 x12 x13 x14 x15 x2 x3 x4 x5 x6 x7 x8 x9:OE}
section
variable{c:Code}{e:Exit}{base:Nat}{B:Nat->Prop}{o:Oper}{post:OI->List OE}{t:OI->Ty}
def Gt:(x0::x1::x2::x3::x4::x5::x6::x7::x8::x9::x10::x11::x12::x13::x14::x15::O).Perm (x15::x0::x1::x2::x3::x4::x5::x6::x7::x8::x9::x10::x11::x12::x13::x14::O):=(List.perm_middle (l₁:=[x0,x1,x2,x3,x4,x5,x6,x7,x8,x9,x10,x11,x12,x13,x14]) (l₂:=O))
def E4(h:RG E ops tV rest (x15::x0::x1::x2::x3::x4::x5::x6::x7::x8::x9::x10::x11::x12::x13::x14::O) G):RG E ops tV rest (x0::x1::x2::x3::x4::x5::x6::x7::x8::x9::x10::x11::x12::x13::x14::x15::O) G:=fun a w S st=>h a w S (st.own_map fun ho=>ho.perm Gt)
def oh(h:AT E tV e (x15::x0::x1::x2::x3::x4::x5::x6::x7::x8::x9::x10::x11::x12::x13::x14::O) G):AT E tV e (x0::x1::x2::x3::x4::x5::x6::x7::x8::x9::x10::x11::x12::x13::x14::x15::O) G:=fun a w S st=>h a w S (st.own_map fun ho=>ho.perm Gt)
def Rv:(x0::x1::x2::x3::x4::x5::x6::x7::x8::x9::x10::x11::O).Perm (x1::x2::x3::x4::x5::x6::x7::x8::x9::x10::x11::x0::O):=(List.perm_middle (l₁:=[x1,x2,x3,x4,x5,x6,x7,x8,x9,x10,x11]) (l₂:=O)).symm
def mT(h:EffOK E (x1::x2::x3::x4::x5::x6::x7::x8::x9::x10::x11::x0::O) G o post t):EffOK E (x0::x1::x2::x3::x4::x5::x6::x7::x8::x9::x10::x11::O) G o post t:=EffOK.perm h (fun ho=>ho.perm Rv) (fun f hf=>Rv.symm.subset hf)
def Ru:(x0::x1::x2::x3::x4::x5::x6::x7::x8::x9::x10::x11::x12::O).Perm (x1::x2::x3::x4::x5::x6::x7::x8::x9::x10::x11::x12::x0::O):=(List.perm_middle (l₁:=[x1,x2,x3,x4,x5,x6,x7,x8,x9,x10,x11,x12]) (l₂:=O)).symm
def zy(h:EffOK E (x1::x2::x3::x4::x5::x6::x7::x8::x9::x10::x11::x12::x0::O) G o post t):EffOK E (x0::x1::x2::x3::x4::x5::x6::x7::x8::x9::x10::x11::x12::O) G o post t:=EffOK.perm h (fun ho=>ho.perm Ru) (fun f hf=>Ru.symm.subset hf)
end
open Go.Sort Go.Shelf

def Ak(h:k<w.heap.size):(grow w os).heap[k]? =w.heap[k]? :=by
 unfold grow;exact Array.getElem?_append_left h
variable{enc:α->Value}
def Jm [Inhabited α]{d:Array α}(h:k≠b):(putRow enc w b off d).heap[k]? =w.heap[k]? :=by
 unfold putRow mapBlock
 rw [Array.getElem?_modify,bv (Ne.symm h)]
def Aj [Inhabited α]{m:Nat}{d:Array α}(hk:k<w.heap.size)(h:k≠b):(sortWorld enc w b off m d os).heap[k]? =w.heap[k]? :=by
 unfold sortWorld
 rw [Ak (by rw [size_putRow];exact hk),Jm h];rfl
def HC [Inhabited α]{m:Nat}{d:Array α}{c:Array Value}{fr:Nat×Nat}(h:w.heap[b]? =some (.cells c T fr)):
  (sortWorld enc w b off m d os).heap[b]? =some (.cells (putCells enc off d c) T fr):=by
 have hlt:=(yI.1 h).1
 unfold sortWorld
 rw [Ak (by rw [size_putRow];exact hlt)]
 unfold putRow mapBlock
 rw [Array.getElem?_modify,bD rfl]
 show Option.map _ (w.heap[b]?)=_
 rw [h];rfl
def Fu [Inhabited α]{d:Array α}{c:Array Value}(h:d.size<=c.size):(putCells enc 0 d c).toList.take d.size=d.toList.map enc:=by
 apply Ie
 intro k
 by_cases hk:k<d.size
 ·rw [AR hk]
  have hc:k<c.size:=by omega
  simp [putCells,hc,hk]
 ·rw [FN (by simp;omega),FN (by simp;omega)]
section
def JQ{n m:Nat}(hl:m=n)(s:Nat)(hs:look G s=some (Q (Y l cap n)))(k:RG E ops tV rest O ((s,Q (Y l cap m))::G)):RG E ops tV rest O G:=by
 subst hl
 exact fun a w S st=>k a w S ⟨st.ext,st.sat,st.own,⟨st.facts.size,st.facts.defers,fun j t h=>by
  unfold look at h
  by_cases H:Nat.beq s j=true
  ·rw [H]at h
   have:=nU H
   subst this
   have e:Q (Y l cap m)=t:=by simpa using h
   rw [<-e];exact st.facts.at_ s _ hs
  ·rw [AP]at H
   rw [H]at h
   exact st.facts.at_ j t h⟩⟩
end

def VY{α:Type}(cmp:α×α->Option Int)(x y:α):Bool:=
 match cmp (x,y)with
 |some c=>decide (c<0)
 |none=>false
def Wz{α:Type}(lt:α->α->Bool)(x:α):List α->List α
 |[]=>[x]
 |y::ys=>if lt y x then y::Wz lt x ys else x::y::ys
def T6{α:Type}(lt:α->α->Bool):List α->List α
 |[]=>[]
 |x::xs=>Wz lt x (T6 lt xs)
structure Good{α:Type}(cmp:α×α->Option Int)(xs:List α):Prop where
 len:xs.length<=1099511627776
 tot: ∀x∈xs,∀y∈xs,(cmp (x,y)).isSome=true
 irr: ∀x∈xs,VY cmp x x=false
 tr: ∀x∈xs,∀y∈xs,∀z∈xs,VY cmp x y=true->VY cmp y z=true->VY cmp x z=true
 anti: ∀x∈xs,∀y∈xs,VY cmp x y=false->VY cmp y x=false->x=y
def sortI(xs:List Int):List Int:=xs.mergeSort fun x y=>decide (x<=y)
def A1(xs:List Int):(sortI xs).length=xs.length:=by unfold sortI;simp
def Gm(x:Int):List Int->List Int
 |[]=>[x]
 |y::l=>if x<=y then x::y::l else y::Gm x l
def OM:List Int->List Int
 |[]=>[]
 |x::l=>Gm x (OM l)
def zb(x:Int): ∀l:List Int,(Gm x l).Perm (x::l)
 |[]=> .refl _
 |y::l=>by
  unfold Gm
  split
  ·exact .refl _
  ·exact((zb x l).cons y).trans (.swap x y l)
def Gl: ∀l:List Int,(OM l).Perm l
 |[]=> .refl _
 |x::l=>(zb x (OM l)).trans ((Gl l).cons x)
def Jh(x:Int): ∀l:List Int,l.Pairwise (· <= ·)->(Gm x l).Pairwise (· <= ·)
 |[],_=>List.pairwise_singleton _ _
 |y::l,h=>by
  have hy: ∀z∈l,y<=z:=fun z hz=>List.rel_of_pairwise_cons h hz
  unfold Gm
  split
  ·rename_i V
   refine List.Pairwise.cons (fun z hz=>?_) h
   rcases eW.1 hz with rfl|hz
   ·exact V
   ·exact Int.le_trans V (hy z hz)
  ·rename_i V
   refine List.Pairwise.cons (fun z hz=>?_) (Jh x l (List.Pairwise.of_cons h))
   rcases eW.1 ((zb x l).mem_iff.1 hz)with rfl|hz
   ·omega
   ·exact hy z hz
def MO: ∀l:List Int,(OM l).Pairwise (· <= ·)
 |[]=> .nil
 |x::l=>Jh x _ (MO l)
def Sv(l:List Int):OM l=sortI l:=by
 refine List.Perm.eq_of_pairwise (le:=(· <= ·)) (fun a b _ _ A D=>Int.le_antisymm A D) (MO l) ?_ ((Gl l).trans (List.mergeSort_perm l _).symm)
 have:=List.pairwise_mergeSort (le:=fun x y:Int=>decide (x<=y)) (fun a b c A D=>by simp at*;omega) (fun a b=>by simp;omega) l
 exact this.imp fun h=>by simpa using h
def Du(xs:List Int):Option (List Int):=if xs.length<=68719476736 then some (OM xs)else none
def FX(xs:List Int):Du xs=if xs.length<=68719476736 then some (sortI xs)else none:=by
 unfold Du
 rw [Sv]
def Iz{xs ys:List Int}(h:Du xs=some ys):xs.length<=68719476736/\ys=sortI xs:=by
 rw [FX]at h
 split at h
 ·exact⟨by assumption,by simpa using h.symm⟩
 ·cases h


def Mr{k:IntKind}{S:SH}: ∀{xs:List Int} {cs:List Value},qA (rI k) S cs xs->cs=xs.map (Value.int k)
 |[],cs,h=>by rw [show cs=[]from h];rfl
 |x::xs,cs,⟨a,b,e,A,D⟩=>by
  rw [e,show a=[.int k x]from A,Mr D]
  rfl
def MN{k:IntKind}{S:SH}: ∀xs:List Int,qA (rI k) S (xs.map (Value.int k)) xs
 |[]=>rfl
 |x::xs=>⟨[.int k x],_,rfl,rfl,MN xs⟩
def N5{ρ:Ren}(L:Lays.n189 P ρ){xs:List Int}(hlen0:xs.length<=68719476736)(hs:kp w S)(h:(d7 (rI .i64) T l cap xs).p w S):
  Calls P (ρ.f 189) #[Y l cap xs.length] w fun e w' =>e= .returned (.tuple #[])/\jl (fun k=>l=some k) w S w' S/\kp w' S/\(d7 (rI .i64) T l cap (sortI xs)).p w' S:=by
 cases l with
 |none=>
  have V:xs=[]:=vE (by obtain⟨_,h4,_⟩:=h;exact h4.1)
  subst V
  exact(Any.slices_Sort_int_none (P:=P) (ρ:=ρ) L none 0 w).mono fun _ _ ⟨A,D⟩=>by subst D;exact⟨A,jl.refl _ _ _,hs,by simpa [sortI] using h⟩
 |some b=>
  obtain⟨cells0,⟨cur,H,hle,hmax,hcs,hct⟩,hrc,hno0⟩:=h
  have hno:S b=none:=hno0 b rfl
  subst hct
  have A:(rI .i64).sz=1:=rfl
  rw [A,Db]at hcs hrc
  have hcells:=Mr hrc
  have hH:Holds (Value.int .i64) w b 0 xs.toArray:=by
   intro j hj
   have hj' :j<xs.length:=by simpa using hj
   have hc:cur[j]? =some (Value.int .i64 xs.toArray[j]!):=by
    have:(cur.toList.take xs.length)[j]? =some (Value.int .i64 xs.toArray[j]!):=by
     rw [hcells,FK,getElem!_pos xs.toArray j hj]
     simp [hj']
    rw [AR (by omega)]at this
    simpa using this
   refine⟨by simp [World.cell?,H,hc],?_⟩
   simp [World.frozen?,H]
  have hblk:=(yI.1 H).1
  have hcall:=calls_of_every_depth fun h2=>AnyS.slices_Sort_int_alone (P:=P) (ρ:=ρ) L h2 b 0 cap xs w hH hblk (by omega)
  refine hcall.mono fun e w' ⟨he,n,os,hw⟩=>?_
  have hlen:=A1 xs
  have hw2:w' =sortWorld (Value.int .i64) w b 0 n (sortI xs).toArray os:=hw
  subst hw2
  refine⟨he,⟨rfl,rfl,rfl,Nat.le_add_right _ _,?_,fun k hk hkb=>Aj hk (fun e=>hkb (by rw [e])),SH.le_refl _,fun _ _ _=>rfl⟩,hs.same fun k o hk=>?_,⟨_,⟨_,HC H,by omega,hmax,?_,rfl⟩,?_,hno0⟩⟩
  ·unfold sortWorld;rw [size_grow,size_putRow];exact Nat.le_add_right _ _
  ·have hkb:k≠b:=fun e=>by subst e;rw [hno]at hk;cases hk
   exact Aj (hs.lt hk) hkb
  ·simp [putCells,A,hcs]
  ·have e1:(sortI xs).length*(rI .i64).sz=(sortI xs).toArray.size:=by rw [A];simp
   rw [e1,Fu (by simp;omega)]
   exact MN (sortI xs)
section
def RB{ρ:Ren}(L:Lays.n189 E.P ρ){f:FuncId}(hf:ρ.f 189=f)(hc:aj E.P f=true){n:Nat}{xs ys:List Int}{x:Operand}(hy:Du xs=some ys)(V:aE E.N G x (Q (Y l cap n)))(hn:n=xs.length)(hd:Nat.blt d E.N.n=true)(k:ys.length=n->RG E ops tV rest (d7 (rI .i64) T l cap ys::O) ((d,tz)::G)):RG E ops tV (⟨some d,.call ⟨.value (.func f),#[x],ats⟩,ty,pos,after,none⟩::rest) (d7 (rI .i64) T l cap xs::O) G:= .of rfl fun a w S st=>by
 obtain⟨hl0,rfl⟩:=Iz hy
 subst hf
 subst hn
 have A:a.eval x=Y l cap xs.length:=V S a st.facts
 have hr:(execOp a.eval ⟨some d,.call ⟨.value (.func (ρ.f 189)),#[x],ats⟩,ty,pos,after,none⟩).run E.P w= .ok (.enter (ρ.f 189) #[Y l cap xs.length]) w:=by
  have e0:a.eval (.func (ρ.f 189))= .func (.func (ρ.f 189)) #[] #[]:=rfl
  simp [execOp,resolve,e0,A,Deferred.ofValue,invoke,il hc]
 refine⟨fun c h=>(by cases h),?_⟩
 rw [hr]
 refine(N5 L hl0 st.sat st.own.1.1).mono fun e w' ⟨he,hext,hsat,hp⟩=>⟨_,he,?_⟩
 have hfp: ∀g∈O,∀b,g.fp b-> ¬(l=some b):=fun g hg b H hl=>st.own.2.1 g hg b hl H
 refine k (A1 xs) _ _ S ⟨st.ext.step hext (fun c hc=>st.own.1.2 c hc),hsat,⟨⟨hp,st.own.1.2⟩,st.own.2.1,st.own.2.2.ext hext hfp⟩,?_⟩;exact(st.facts.mono hext.keep).put hd trivial
end
open Go.Lib

variable{W:World}
def pj(hle: ∀(b:Nat) (o:Obj),W.heap[b]? =some o-> ∃o',w.heap[b]? =some o' /\Fh o o'){v:Value}(h:W.cell? ⟨b,i,none⟩=some v):w.cell? ⟨b,i,none⟩=some v:=by
 unfold World.cell? at h ⊢
 cases H:W.heap[b]? with
 |none=>simp [H]at h
 |some o=>
  obtain⟨o',A,D⟩:=hle b o H
  simp only [H]at h
  simp only [A]
  cases o with
  |cells c T fr=>
   obtain⟨l,rfl⟩:=D
   simp only [Option.isSome_none,jS,ii]at h ⊢
   rw [<-L5]at h ⊢
   rw [zG (qB.1 h).1]
   exact h
  |_=>simp at h
def JZ{g:Nat}{T:Array CaseRow}(hle: ∀(b:Nat) (o:Obj),W.heap[b]? =some o-> ∃o',w.heap[b]? =some o' /\Fh o o')(h:CaseVar g T W):CaseVar g T w:=by
 obtain⟨R,oR,cap,A,D⟩:=h
 exact⟨R,oR,cap,pj hle A,fun i hi=>⟨pj hle (D i hi).1,pj hle (D i hi).2.1,pj hle (D i hi).2.2.1,pj hle (D i hi).2.2.2.1,pj hle (D i hi).2.2.2.2⟩⟩
def H7{g3 g4:Nat}(hle: ∀(b:Nat) (o:Obj),W.heap[b]? =some o-> ∃o',w.heap[b]? =some o' /\Fh o o')(h:Utf8Tabs g3 g4 W):Utf8Tabs g3 g4 w:=
 ⟨fun c hc=>pj hle (h.1 c hc),fun i hi=>⟨pj hle (h.2 i hi).1,pj hle (h.2 i hi).2⟩⟩
end Go.Proofs.YthbdkceckjihgaaGreatDoor

