/- cm of this claim: W64, W59, W61, W63, W67, W68, W58, W66, W71, W72, W73, W60, W44, W55, W29, W54. -/
import Derived.Test.YthbdkceckjihgaaGreatDoorBdV3
import Derived.Test.YthbdkceckjihgaaGreatDoorBdV2
import Derived.WideKeyRuns
import Derived.Shelf.GgSortFunc.Insertion
import Derived.Shelf.Slices.In.SortNone
import Derived.Test.YthbdkceckjihgaaGreatDoorBdV1
import Derived.Shelf.Unicode.CaseTo
import Derived.Shelf.Unicode.DecodeSlow
set_option linter.all false
namespace Go.Proofs.YthbdkceckjihgaaGreatDoor
open Go

variable{d:Nat}{α:Type}{n:FuncId}{r:Rp α}{t:TypeId}
def tY{n:Nat}{r s:Option Ty}{t u:Ty}(h:(te n d r,s)=(some t,some u)):Nat.blt d n=true/\r=some t/\s=some u:=
 ⟨(cV (ux h).1).1,(cV (ux h).1).2,(ux h).2⟩
def Si(G:kP):Operand->Option Ty
 | .tmp k=>look G k
 | .const (.int k n)=>some (K (rI k) n)
 | .const (.bool b)=>some (K rB b)
 |_=>none
variable{G:kP}{N:Fr}{x:Nat}
def I2{t:Ty}: ∀{x:Operand},Si G x=some t->aC N G x t
 | .tmp _,h=>M h
 | .const (.int _ _),h=>by cases h;exact hI
 | .const (.bool _),h=>by cases h;exact hB
variable{ts:List Ty}{xs:List α}
def dU{N:Fr}{G:kP}: ∀{xs:List Operand} {ts:List Ty},xs.map (Si G)=ts.map some->iA N G xs ts
 |[],[],_=>trivial
 |_::_,_::_,h=>⟨I2 (xS h).1,dU (xS h).2⟩

variable{h1:Type}{E:En}{O:List OE}{X:Type}{aF:Exit->Act->World->Prop}{T U:TypeId}{a:Nat}{after after2:Array Edge}{agg:Bool}{ats:Array TypeId}{b bytes c cap d2:Nat}{dst:Option Tmp}{e:TypeId}{ρ:Type}{f:X->h1->Option (ρ×X)}{fid:FuncId}{g:Option (Nat×Bool)}{β:Type}{get:α->β}{i id' :Nat}{j:IntKind}{k:Nat}{κ:Type}{l:Option Nat}{m:List (κ×β)}{off:Nat}{ops:Array Oper}{p:Nat}{pos pos2:String}{q:Rp β}{st:TypeId}{tl:List α}{ty ty2:TypeId}{v:Operand}{w:World}{xt:TypeId}{y:Code}{yt:TypeId}{z:List Value}{γ:β->Ty}
section
variable{l:List Oper}{op:Op}{t:Ty}
def af(h:bM E O G ⟨some d,op,ty,pos,after,none⟩ t)(k:RG E ops aF l O ((d,t)::G))(hd:Nat.blt d E.N.n=true:=by exact rfl):
  RG E ops aF (⟨some d,op,ty,pos,after,none⟩::l) O G:=Fh h hd k
def dk{x:α}{sz:Nat}(ti:TI E.P U sz bytes agg z)(hp:te E.N.n d (look G p)=some (aU r x))(k:RG E ops aF l O ((d,K r x)::G))(hs:(r.sz,r.agg)=(sz,agg):=by exact rfl):RG E ops aF (⟨some d,.load U (.tmp p),ty,pos,after,none⟩::l) O G:=zo (cV hp).1 (sX ti (cV hp).2 hs) k
def sw{x:α}{sz:Nat}(hf:aT E.P T i=some (off,sz))(hq:g9 r off q get)(hp:te E.N.n d (look G p)=some (aU r x))(k:RG E ops aF l O ((d,aU q (get x))::G))(h0:(!(Nat.beq sz 0)&&Nat.ble (off+q.sz) r.sz)=true:=by exact rfl):
  RG E ops aF (⟨some d,.fieldAddr T (.tmp p) i,ty,pos,after,none⟩::l) O G:=zo (cV hp).1 (wP hf hq (cV hp).2 h0) k
def bW{x:α}{sz s2:Nat}{p2:Nat}(hf:aT E.P T i=some (off,sz))(hq:g9 r off q get)(ti:TI E.P U s2 bytes agg z)(hp:te E.N.n d (look G p)=some (aU r x))(k:RG E ops aF l O ((d2,K q (get x))::(d,aU q (get x))::G))(h0:(!(Nat.beq sz 0)&&Nat.ble (off+q.sz) r.sz)=true:=by exact rfl)(hp2:te E.N.n d2 (look ((d,aU q (get x))::G) p2)=some (aU q (get x)):=by exact rfl)(hs:(q.sz,q.agg)=(s2,agg):=by exact rfl):
  RG E ops aF (⟨some d,.fieldAddr T (.tmp p) i,ty,pos,after,none⟩::⟨some d2,.load U (.tmp p2),ty2,pos2,after2,none⟩::l) O G:=sw hf hq hp (dk ti hp2 k hs) h0
def bF{sz o:Nat}(n:Nat)(hf:aT E.P T i=some (off,sz))(hp:te E.N.n d (look G p)=some (tV (ak b o)))(k:RG E ops aF l O ((d,tV (ak b n))::G))(h0:Nat.beq sz 0=false:=by exact rfl)(he:o+off=n:=by exact rfl):RG E ops aF (⟨some d,.fieldAddr T (.tmp p) i,ty,pos,after,none⟩::l) O G:=zo (cV hp).1 (oy n hf h0 (cV hp).2 he) k
def dE(D:te E.N.n d (look G x)=some (tT ts))(hi:ts[i]? =some t)(k:RG E ops aF l O ((d,t)::G)):RG E ops aF (⟨some d,.extract (.tmp x) i,ty,pos,after,none⟩::l) O G:=zo (cV D).1 (wd hi (cV D).2) k
def cv{n:Int}(k:RG E ops aF l O ((d,K (rI j) n)::G))(hd:Nat.blt d E.N.n=true:=by exact rfl):RG E ops aF (⟨some d,.assign (.const (.int j n)),ty,pos,after,none⟩::l) O G:=zo hd zai k
def cS{b:Bool}(k:RG E ops aF l O ((d,K rB b)::G))(hd:Nat.blt d E.N.n=true:=by exact rfl):RG E ops aF (⟨some d,.assign (.const (.bool b)),ty,pos,after,none⟩::l) O G:=zo hd zab k
def cR(hu:E.P.underlying st=some (.slice e))(D:te E.N.n d (look G x)=some (K (eF r) xs))(k:RG E ops aF l O ((d,K (rI .i64) (xs.length:Int))::G)):
  RG E ops aF (⟨some d,.call ⟨.builtin .len,#[.tmp x],#[st]⟩,ty,pos,after,none⟩::l) O G:=zo (cV D).1 (zln hu (cV D).2) k
def d6{v:α}(D:te E.N.n d (look G x)=some (K r v))(k:RG E ops aF l O ((d,aU r v)::G)):RG E ops aF (⟨some d,.box T (.tmp x),ty,pos,after,none⟩::l) O G:=zo (cV D).1 (zbx (cV D).2) k
def im{b q:Bool}(h:(te E.N.n d (look G c),look G x)=(some (K rB b),some (nl b (K rB q))))(k:RG E ops aF l O ((d,K rB (b&&q))::G)):
  RG E ops aF (⟨some d,.pick (.tmp c) (.tmp x) (.const (.bool false)),ty,pos,after,none⟩::l) O G:=zo (tY h).1 (zpa (tY h).2.1 (tY h).2.2) k
def kf{b q:Bool}(h:(te E.N.n d (look G c),look G x)=(some (K rB b),some (nl (!b) (K rB q))))(k:RG E ops aF l O ((d,K rB (b||q))::G)):
  RG E ops aF (⟨some d,.pick (.tmp c) (.const (.bool true)) (.tmp x),ty,pos,after,none⟩::l) O G:=zo (tY h).1 (zpo (tY h).2.1 (tY h).2.2) k
section
variable{y:Nat}{m n:Int}
def B0(h:(te E.N.n d (look G x),look G y)=(some (K (rI j) m),some (K (rI j) n)))(k:RG E ops aF l O ((d,K rB (decide (m<n)))::G)):
  RG E ops aF (⟨some d,.binOp .lss xt (.tmp x) (.tmp y) yt,ty,pos,after,none⟩::l) O G:=zo (tY h).1 (zlt (tY h).2.1 (tY h).2.2) k
def gv(D:te E.N.n d (look G x)=some (K (rI j) m))(k:RG E ops aF l O ((d,K rB (m==n))::G)):RG E ops aF (⟨some d,.binOp .eql xt (.tmp x) (.const (.int j n)) yt,ty,pos,after,none⟩::l) O G:=zo (cV D).1 (zei (cV D).2) k
def iY(D:te E.N.n d (look G x)=some (K (rI j) m))(k:RG E ops aF l O ((d,K rB (m !=n))::G)):RG E ops aF (⟨some d,.binOp .neq xt (.tmp x) (.const (.int j n)) yt,ty,pos,after,none⟩::l) O G:=zo (cV D).1 (zni (cV D).2) k
def nD{c:Bool}(D:look G x=some (nl c (K (rI j) m)))(hc:c=true):bM E O G ⟨dst,.binOp .eql xt (.tmp x) (.const (.int j n)) yt,ty,pos,after,g⟩ (K rB (m==n)):=nd (cC D hc) hI
def AC{c:Bool}(D:look G x=some (nl c (K (rI j) m)))(hc:c=true):bM E O G ⟨dst,.binOp .neq xt (.tmp x) (.const (.int j n)) yt,ty,pos,after,g⟩ (K rB (m !=n)):=jh (cC D hc) hI
def ea{id:Nat}{z w:Code}(D:xs.drop i=[])(h:(te E.N.n d (look G a),look G b)=(some (K (rI .i64) (i:Int)),some (K (rI .i64) (xs.length:Int))))(k:AT E aF .normal O ((d,K rB (decide ((i:Int)<(xs.length:Int))))::G))(hc:look ((d,K rB (decide ((i:Int)<(xs.length:Int))))::G) c=some (K rB (decide ((i:Int)<(xs.length:Int)))):=by exact rfl):
  LG E (Exit.inBlock id aF) (.seq (.region id' [⟨some d,.binOp .lss xt (.tmp a) (.tmp b) yt,ty,pos,after,none⟩].toArray false) (.seq (.cond (.tmp c) z (.exit id)) w)) O G:=
 gJ<|bl<|B0 h<|bX<|aN<|pE (M hc) (SB D)<|gL<|aH (aH (dP k))
def d9{e:α}{z w:Code}(D:xs.drop i=e::tl)(h:(te E.N.n d (look G a),look G b)=(some (K (rI .i64) (i:Int)),some (K (rI .i64) (xs.length:Int))))(k:CG E (Exit.then (xd E.r E.P (.seq (.region id' [⟨some d,.binOp .lss xt (.tmp a) (.tmp b) yt,ty,pos,after,none⟩].toArray false) (.seq (.cond (.tmp c) .skip z) w)) aF) aF) w O ((d,K rB (decide ((i:Int)<(xs.length:Int))))::G))(hc:look ((d,K rB (decide ((i:Int)<(xs.length:Int))))::G) c=some (K rB (decide ((i:Int)<(xs.length:Int)))):=by exact rfl):
  LG E aF (.seq (.region id' [⟨some d,.binOp .lss xt (.tmp a) (.tmp b) yt,ty,pos,after,none⟩].toArray false) (.seq (.cond (.tmp c) .skip z) w)) O G:=
 gJ<|bl<|B0 h<|bX<|aN<|pD (M hc) (Ps D)<|lW k
end
def re{y:α}{ix:Nat}{i:Int}{sz:Nat}(hu:E.P.underlying st=some (.slice e))(ti:TI E.P e sz bytes agg z)(h:(te E.N.n d (look G x),look G ix)=(some (K (eF r) xs),some (K (rI j) i)))(hy:fE xs i=some y)(k:RG E ops aF l O ((d,aU r y)::G))(hsz:r.sz=sz:=by exact rfl):
  RG E ops aF (⟨some d,.indexAddr st (.tmp x) (.tmp ix),ty,pos,after,none⟩::l) O G:=zo (tY h).1 (WQ hu ti hsz (tY h).2.1 (tY h).2.2 hy) k
def gp{y:α}{ix:Nat}{i:Int}{sz:Nat}{p2:Nat}(hu:E.P.underlying st=some (.slice e))(ti:TI E.P e sz bytes agg z)(h:(te E.N.n d (look G x),look G ix)=(some (K (eF r) xs),some (K (rI j) i)))(hy:fE xs i=some y)(k:RG E ops aF l O ((d2,K r y)::(d,aU r y)::G))(hsz:r.sz=sz:=by exact rfl)(hp2:te E.N.n d2 (look ((d,aU r y)::G) p2)=some (aU r y):=by exact rfl)(hs:(r.sz,r.agg)=(sz,agg):=by exact rfl):
  RG E ops aF (⟨some d,.indexAddr st (.tmp x) (.tmp ix),ty,pos,after,none⟩::⟨some d2,.load e (.tmp p2),ty2,pos2,after2,none⟩::l) O G:=re hu ti h hy (dk ti hp2 k hs) hsz
def cn{set:α->β->α}{x:α}{y:β}{sz:Nat}{v:Nat}{ty:TypeId}(ti:TI E.P U sz bytes agg z)(hset:dW r off q set)(h:(look G p,look G v)=(some (tV (ak b off)),some (K q y)))(k:RG E ops aF l (bx r T b (set x y)::O) G)(hsz:q.sz=sz:=by exact rfl)(hoff:Nat.ble (off+q.sz) r.sz=true:=by exact rfl):
  RG E ops aF (⟨none,.store U (.tmp p) (.tmp v),ty,pos,after,none⟩::l) (bx r T b x::O) G:=lD ti hsz hset hoff (M (ux h).1) (M (ux h).2) k
def KJ(n:Nat)(ops:Array Oper)(d j:Nat)(G:kP):Option Ty:=((ops[j]?).bind (·.dst)).bind fun gs=>te n gs (te n d (look G gs))
def Ca{n d j:Nat}{ops:Array Oper}{t:Ty}(h:KJ n ops d j G=some t): ∃gs,(ops[j]?).bind (·.dst)=some gs/\te n gs (te n d (look G gs))=some t:=by
 unfold KJ at h
 cases hg:(ops[j]?).bind (·.dst)with
 |none=>rw [hg]at h;cases h
 |some gs=>rw [hg]at h;exact⟨gs,rfl,h⟩
def aG{j:Nat}{b:Bool}(hg:KJ E.N.n ops d j G=some (K rB b))(h:b=true->bM E O G ⟨some d,op,ty,pos,after,some (j,true)⟩ t)(k:RG E ops aF l O ((d,nl b t)::G)):
  RG E ops aF (⟨some d,op,ty,pos,after,some (j,true)⟩::l) O G:=by obtain⟨gs,A,V⟩:=Ca hg;exact zgt A V h k
def aM{j:Nat}{b:Bool}(hg:KJ E.N.n ops d j G=some (K rB b))(h:(!b)=true->bM E O G ⟨some d,op,ty,pos,after,some (j,false)⟩ t)(k:RG E ops aF l O ((d,nl (!b) t)::G)):
  RG E ops aF (⟨some d,op,ty,pos,after,some (j,false)⟩::l) O G:=by obtain⟨gs,A,V⟩:=Ca hg;exact zgf A V h k
section
variable{c:Bool}
def di{x:α}{sz:Nat}(ti:TI E.P U sz bytes agg z)(hp:look G p=some (nl c (aU r x)))(hs:(r.sz,r.agg)=(sz,agg))(hc:c=true):
  bM E O G ⟨dst,.load U (.tmp p),ty,pos,after,g⟩ (K r x):=nc ti (ux hs).1 (ux hs).2 (cC hp hc)
def dF{x:α}{sz:Nat}(hf:aT E.P T i=some (off,sz))(hq:g9 r off q get)(hp:look G p=some (aU r x))(h0:(!(Nat.beq sz 0)&&Nat.ble (off+q.sz) r.sz)=true)(_:c=true):bM E O G ⟨dst,.fieldAddr T (.tmp p) i,ty,pos,after,g⟩ (aU q (get x)):=wP hf hq hp h0
def d7(D:look G x=some t)(_:c=true):bM E O G ⟨dst,.move (.tmp x),ty,pos,after,g⟩ t:=jr D
def sy(D:look G x=some (nl c t))(hc:c=true):bM E O G ⟨dst,.move (.tmp x),ty,pos,after,g⟩ t:=bL (cC D hc)
def lZ(hu:E.P.underlying st=some (.slice e))(D:look G x=some (nl c (K (eF r) xs)))(hc:c=true):
  bM E O G ⟨dst,.call ⟨.builtin .len,#[.tmp x],#[st]⟩,ty,pos,after,g⟩ (K (rI .i64) (xs.length:Int)):=mh hu (cC D hc)
def uA{b:Bool}(D:look G x=some (nl c (K rB b)))(hc:c=true):bM E O G ⟨dst,.unOp .not xt (.tmp x),ty,pos,after,g⟩ (K rB (!b)):=mT (cC D hc)
end
def bw(h:te E.N.n d (look G x)=some t)(k:CG E aF y O ((d,t)::G)):RG E ops (Exit.then (y.wpIn (fw E.r) 0 E.P aF) aF) [⟨some d,.assign (.tmp x),ty,pos,after,none⟩] O G:=j3 h (bX k)
def fR(h:AT E aF .ret O G):RG E ops (Exit.then (Code.ret.wpIn (fw E.r) 0 E.P aF) aF) [] O G:=bX (xH h)
def a8(h:te E.N.n d (look G x)=some t)(k:AT E aF .ret O ((d,t)::G)):RG E ops (Exit.then (Code.ret.wpIn (fw E.r) 0 E.P aF) aF) [⟨some d,.assign (.tmp x),ty,pos,after,none⟩] O G:=j3 h (fR k)
def bv{id:Nat}{z:Code}(h:RG E l.toArray (Exit.then (y.wpIn (fw E.r) 0 E.P (Exit.then (z.wpIn (fw E.r) 0 E.P aF) aF)) (Exit.then (z.wpIn (fw E.r) 0 E.P aF) aF)) l O G):CG E aF (.seq (.seq (.region id l.toArray false) y) z) O G:=aN (bl h)
def aI{id:Nat}(h:te E.N.n d (look G x)=some t)(k:RG E ((⟨some d,.move (.tmp x),ty,pos,after,none⟩::l).toArray) (Exit.then (y.wpIn (fw E.r) 0 E.P aF) aF) l O ((d,t)::G)):
  CG E aF (.seq (.region id (⟨some d,.move (.tmp x),ty,pos,after,none⟩::l).toArray false) y) O G:=bl (bo h k)
def f9{α β:Type _}{a:Option α}{f:α->Option β}{R:β}{xs:List Operand}{u:α->Ty}(h:a.bind f=some R)(hc:aj E.P fid=true)(hs: ∀{y},a=some y->de E.P fid ts (u y))(D:iA E.N G xs ts)(k: ∀y,f y=some R->RG E ops aF l O ((d,u y)::G))(hd:Nat.blt d E.N.n=true:=by exact rfl):RG E ops aF (⟨some d,.call ⟨.value (.func fid),xs.toArray,ats⟩,ty,pos,after,none⟩::l) O G:=
 cL h fun y hy h=>Fh (bN hc (hs hy) D) hd (k y h)
def KI{α β:Type _}{γ:Type}{a:Option α}{f:α->Option β}{R:β}{r:Rp γ}{zs:α->List γ}{xs:List Operand}(h:a.bind f=some R)(hc:aj E.P fid=true)(hs: ∀{y},a=some y->jG E.P fid ts false r T (zs y))(D:iA E.N G xs ts)(k: ∀y,f y=some R-> ∀b cap,RG E ops aF l (fq r T b cap (zs y)::O) ((d,tV (Y b cap (zs y).length))::G))(hd:Nat.blt d E.N.n=true:=by exact rfl):
  RG E ops aF (⟨some d,.call ⟨.value (.func fid),xs.toArray,ats⟩,ty,pos,after,none⟩::l) O G:=cL h fun y hy h=>PQ hc (hs hy) D hd (k y h)
def dQ{e:α}{id:Nat}(D:xs.drop i=e::tl)(hN:xs.length<=maxLen)(h:te E.N.n d (look G a)=some (K (rI .i64) (i:Int)))(k:AT E aF .normal O ((d2,K (rI .i64) ((i+1:Nat):Int))::(d,K (rI .i64) ((i+1:Nat):Int))::G))(V:te E.N.n d2 (look ((d,K (rI .i64) ((i+1:Nat):Int))::G) b)=some (K (rI .i64) ((i+1:Nat):Int)):=by exact rfl):
  AT E (Exit.inBlock id (Exit.then ((Code.region id' [⟨some d,.binOp .add xt (.tmp a) (.const (.int .i64 1)) yt,ty,pos,after,none⟩,⟨some d2,.move (.tmp b),ty2,pos2,after2,none⟩].toArray false).wpIn (fw E.r) 0 E.P aF) aF)) .normal O G:=
 ca<|aJ<|bd<|zo (cV h).1 (WR (Pt D hN) (cV h).2)<|bo V<|bR k
def UO{e:α}{b2 d3 id:Nat}{ty3:TypeId}{pos3:String}{after3:Array Edge}(D:xs.drop i=e::tl)(hN:xs.length<=maxLen)(h:te E.N.n d (look G a)=some (K (rI .i64) (i:Int)))(k:AT E aF .normal O ((d3,K (rI .i64) ((i+1:Nat):Int))::(d2,K (rI .i64) ((i+1:Nat):Int))::(d,K (rI .i64) (i:Int))::G))(A:te E.N.n d2 (look ((d,K (rI .i64) (i:Int))::G) b)=some (K (rI .i64) (i:Int)):=by exact rfl)(V:te E.N.n d3 (look ((d2,K (rI .i64) ((i+1:Nat):Int))::(d,K (rI .i64) (i:Int))::G) b2)=some (K (rI .i64) ((i+1:Nat):Int)):=by exact rfl):
  AT E (Exit.inBlock id (Exit.then ((Code.region id' [⟨some d,.move (.tmp a),ty,pos,after,none⟩,⟨some d2,.binOp .add xt (.tmp b) (.const (.int .i64 1)) yt,ty2,pos2,after2,none⟩,⟨some d3,.assign (.tmp b2),ty3,pos3,after3,none⟩].toArray false).wpIn (fw E.r) 0 E.P aF) aF)) .normal O G:=
 ca<|aJ<|bd<|bo h<|zo (cV A).1 (WR (Pt D hN) (cV A).2)<|j3 V<|bR k
section
variable{e:α}{q1 q2 d3 d4 id:Nat}{ty3 ty4 u:TypeId}{pos3 pos4:String}{after3 after4:Array Edge}{z w:Code}
end
end
variable{P:Program}
section
variable{l:List Oper}
def sx(r:Rp α)(k:RG E ops aF l O ((d,K (eF r) [])::G))(hd:Nat.blt d E.N.n=true:=by exact rfl):RG E ops aF (⟨some d,.assign (.const (.slice none 0 0)),ty,pos,after,none⟩::l) O G:=zo hd (ck Vp) k
def dl{β:Type _}{X aa:Option β}{r:β}{x:Code}{b:Bool}(h:(if b=true then X else aa)=some r)(H:look G c=some (K rB b))(D:X=some r->CG E aF x O G)(hy:aa=some r->CG E aF y O G):
  RG E ops (Exit.then ((Code.cond (.tmp c) x y).wpIn (fw E.r) 0 E.P aF) aF) [] O G:=bX (sm h H D hy)
def cQ{id:Nat}{tD:Act->World->Prop}(h:AT E aF .ret O G):AT E (Exit.inBlock id (Exit.then tD aF)) .ret O G:=At (ai h)
def fN{n:Int}(k:AT E aF .ret O ((d,K (rI j) n)::G))(hd:Nat.blt d E.N.n=true:=by exact rfl):RG E ops (Exit.then (Code.ret.wpIn (fw E.r) 0 E.P aF) aF) [⟨some d,.assign (.const (.int j n)),ty,pos,after,none⟩] O G:=zo hd zai (fR k)
def ec{f:FuncId}{fn:Func}{c:Code}{t:Ty}{N:Nat}(hf:P.funcs[f]? =some fn)(H:(fn.body,fn.ntmps,Nat.ble ts.length fn.ntmps)=(some c,N,true))(h: ∀{w0 S0},CG ⟨P,⟨N,[]⟩,rp,w0,S0,none⟩ (bodyPost P fn (JZ ⟨P,⟨N,[]⟩,rp,w0,S0,none⟩ t)) c [] (wB 0 ts)):de P f ts t:=by
 obtain⟨A,V⟩:=ux H
 obtain⟨V,h3⟩:=ux V
 subst V
 exact de.of hf A rfl h3 fun _ _=>h
section
def UP{G:kP}{t:Ty}:look ((k,t)::G) k=some t:=by simp [look]
def oz{u:Ty}(h:ts[i]? =some u)(hu:look G x=some u)(H:([(⟨x,u,none⟩:Nd)].all (np l ⟨dst,.move (.tmp x),ty,pos,after,g⟩ i)&&d8 i ⟨dst,.move (.tmp x),ty,pos,after,g⟩&&g.isNone)=true:=by exact rfl):
  ∃(needs:List Nd) (t:Ty),ts[i]? =some t/\pT G ts needs/\(needs.all (np l ⟨dst,.move (.tmp x),ty,pos,after,g⟩ i))=true/\d8 i ⟨dst,.move (.tmp x),ty,pos,after,g⟩=true/\bn E O l.toArray (iG needs) ⟨dst,.move (.tmp x),ty,pos,after,g⟩ t:=
 AA x h hu (jr UP) H
def zp{v:α}{sz:Nat}(j:Nat)(ti:TI E.P U sz bytes agg z)(h:ts[i]? =some (K r v))(hu:ts[j]? =some (aU r v))(hs:(r.sz,r.agg)=(sz,agg):=by exact rfl)(H:([(⟨x,aU r v,some j⟩:Nd)].all (np l ⟨dst,.load U (.tmp x),ty,pos,after,g⟩ i)&&d8 i ⟨dst,.load U (.tmp x),ty,pos,after,g⟩&&g.isNone)=true:=by exact rfl):
  ∃(needs:List Nd) (t:Ty),ts[i]? =some t/\pT G ts needs/\(needs.all (np l ⟨dst,.load U (.tmp x),ty,pos,after,g⟩ i))=true/\d8 i ⟨dst,.load U (.tmp x),ty,pos,after,g⟩=true/\bn E O l.toArray (iG needs) ⟨dst,.load U (.tmp x),ty,pos,after,g⟩ t:=
 ly x j h hu (sX ti UP hs) H
end
end

structure ND{κ:Type} [DecidableEq κ](P:Program)(kt:TypeId)(kv:κ->Value):Prop where
 chk: ∀e w k,(Instr.checkKey e 10000 kt (kv k)).run P w= .ok () w
 eql: ∀w a b,(Op.equal kt (kv a) (kv b)).run P w= .ok (decide (a=b)) w
 wide:(match P.underlying kt with|some (.array _ _)|some (.struct _)=>true|_=>false)=true
 same: ∀k,Instr.sameBits 10000 (kv k) (kv k)=true
 inj: ∀a b,kv a=kv b->a=b
def QN(p:Int×Int):Value:= .agg #[.int .i64 p.1,.int .i64 p.2]
def k2(l:List Int):Int×Int:=(l.getD 0 0,l.getD 1 0)
variable{kt:TypeId}
def Vl{kt el sz:Nat}(h:P.underlying kt=some (.array 2 el))(he:P.underlying el=some (.int .i64))(ti:TI P el sz bytes agg z)(hsz:Nat.beq sz 1=true)(hq:LW P kt (n8 (rI .i64) 2)):ND P kt QN where
 chk:=fun e w k=>by
  obtain⟨i,zv,hi,hs,_⟩:=ti.get
  have A:sz=1:=nk hsz
  have ha:(isAgg el).run P w= .ok false w:=by
   simp [isAgg,gP he,Result.andThen]
  have h3: ∀(j:Nat) (x:Int) (cs:Array Value),cs[j]? =some (.int .i64 x)->(part el cs (j*i.size)).run P w= .ok (.int .i64 x) w:=fun j x cs hj=>by
   simp [part,ha,Result.andThen,hs,A,hj]
  have h4: ∀x:Int,(Instr.checkKey e 9999 el (.int .i64 x)).run P w= .ok () w:=fun x=>by
   show(Instr.checkKey e (9998+1) el (.int .i64 x)).run P w= .ok () w
   unfold Instr.checkKey
   simp only [ow,gP he,pl]
   rfl
  have e1:=h3 0 k.1 #[.int .i64 k.1,.int .i64 k.2] rfl
  have e2:=h3 1 k.2 #[.int .i64 k.1,.int .i64 k.2] rfl
  show(Instr.checkKey e (9999+1) kt (QN k)).run P w= .ok () w
  unfold Instr.checkKey
  simp only [QN,ow,gP h,pl,Std.Legacy.Range.forIn_eq_forIn_range',Std.Legacy.Range.size,Nat.sub_zero,Nat.add_sub_cancel,Nat.div_one,List.range'_succ,List.range'_zero,List.forIn_cons,List.forIn_nil,sizeOf,typeInfo,hi,Ax,Nat.zero_mul,ph,Nat.one_mul]
  simp only [Nat.zero_mul,Nat.one_mul]at e1 e2
  simp [e1,e2,h4,Result.andThen,hi]
 eql:=fun w a b=>by
  have:=hq.run (fun _=>none) [.int .i64 a.1,.int .i64 a.2] [.int .i64 b.1,.int .i64 b.2] [a.1,a.2] [b.1,b.2] 9980 w ⟨rfl,[_],[_],rfl,rfl,[_],[],rfl,rfl,rfl⟩ ⟨rfl,[_],[_],rfl,rfl,[_],[],rfl,rfl,rfl⟩
  have e1:decide (([a.1,a.2]:List Int)=[b.1,b.2])=decide (a=b):=by
   obtain⟨a1,a2⟩:=a;obtain⟨b1,b2⟩:=b;simp
  rw [e1]at this
  show(Op.equalIn (9980+20) kt (QN a) (QN b)).run P w=_
  exact this
 wide:=by rw [h]
 same:=fun k=>by
  show Instr.sameBits (9999+1) (QN k) (QN k)=true
  unfold Instr.sameBits QN
  simp only [List.zip_cons_cons,List.zip_nil_left,uj,List.all_nil]
  unfold Instr.sameBits
  simp
 inj:=fun a b h=>by
  obtain⟨a1,a2⟩:=a;obtain⟨b1,b2⟩:=b
  simpa [QN] using h
variable{S:SH}{kv:κ->Value}
section
variable [DecidableEq κ]{k:κ}
def JN{w:World}{S:SH}{k:κ}(hk:ND P kt kv): ∀{es:List MapEntry} {m:List (κ×β)} (i:Nat),rJ γ kv S es m->
  ∃u,(Instr.findAsking kt (kv k) es i).run P w= .ok u w/\((u=none/\(∀x∈es,x.key≠kv k)/\fD m k=none)\/ ∃(j:Nat) (e:MapEntry) (y:β),u=some (i+j,e.val)/\es[j]? =some e/\e.key=kv k/\fD m k=some y/\(γ y).p S e.val)
 |[],[],i,_=>⟨none,by simp [Instr.findAsking],.inl ⟨rfl,fun x D=>(by cases D),rfl⟩⟩
 |e::es,q::m,i,⟨A,V,h3,h4⟩=>by
  by_cases hq:k=q.1
  ·subst hq
   refine⟨some (i,e.val),?_,.inr ⟨0,e,q.2,rfl,rfl,A,by unfold fD;rw [bK rfl],V⟩⟩
   unfold Instr.findAsking
   simp [A,hk.eql,Result.andThen]
  ·obtain⟨u,g1,g2⟩:=JN hk (k:=k) (w:=w) (i+1) h4
   refine⟨u,?_,?_⟩
   ·unfold Instr.findAsking
    simp [A,hk.eql,hq,Result.andThen,g1]
   ·have hm:fD (q::m) k=fD m k:=by conv=>lhs;unfold fD;rw [bG (fun e=>hq e.symm)]
    rw [hm]
    rcases g2 with⟨e1,e2,e3⟩|⟨j,e',y,e1,e2,e3,e4,e5⟩
    ·refine .inl ⟨e1,fun x D=>?_,e3⟩
     rcases lK.1 D with rfl|D
     ·rw [A];exact fun e=>hq (hk.inj _ _ e).symm
     ·exact e2 x D
    ·exact .inr ⟨j+1,e',y,by rw [e1];congr 2;omega,by simpa using e2,e3,e4,e5⟩
def Ld{q k:κ}{y:β}(hk:q≠k): ∀(m:List (κ×β)),(∀p∈m,p.1≠q)-> ∀p∈ie m k y,p.1≠q:=by
 intro m
 induction m with
 |nil=>intro _ p hp;rw [uk.1 hp];exact fun e=>hk e.symm
 |cons p0 m ih=>
  intro hm p hp
  unfold ie at hp
  split at hp
  ·rcases lK.1 hp with rfl|hp
   ·exact fun e=>hk e.symm
   ·exact hm p (lH _ hp)
  ·rcases lK.1 hp with rfl|hp
   ·exact hm _ (ln ..)
   ·exact ih (fun p hp=>hm p (lH _ hp)) p hp
def Df(hinj: ∀a b,kv a=kv b->a=b){y:β}{v:Value}{born:Nat}(hv:(γ y).p S v): ∀{es:List MapEntry} {m:List (κ×β)},rJ γ kv S es m->(∀x∈es,x.key≠kv k)->rJ γ kv S (es++[⟨kv k,v,born⟩]) (ie m k y)
 |[],[],_,_=>⟨rfl,hv,fun _ h=>(by cases h),trivial⟩
 |e::es,q::m,⟨A,V,h3,h4⟩,hn=>by
  have hq:q.1≠k:=fun e' =>hn e (ln ..) (by rw [A,e'])
  have hm:ie (q::m) k y=q::ie m k y:=by conv=>lhs;unfold ie;rw [bG hq]
  rw [hm]
  exact⟨A,V,Ld hq m h3,Df hinj hv h4 fun x D=>hn x (lH _ D)⟩
def Fb(hinj: ∀a b,kv a=kv b->a=b){y:β}{v:Value}(hv:(γ y).p S v): ∀{es:List MapEntry} {m:List (κ×β)},rJ γ kv S es m-> ∀j e,es[j]? =some e->e.key=kv k->rJ γ kv S (es.modify j fun e=>{e with key:=kv k,val:=v}) (ie m k y)
 |[],[],_,j,e,he,_=>by cases he
 |e0::es,q::m,⟨A,V,h3,h4⟩,j,e,he,hek=>by
  cases j with
  |zero=>
   have he' :e0=e:=nO he
   subst he'
   have hq:q.1=k:=hinj _ _ (by rw [<-A,hek])
   have hm:ie (q::m) k y=(k,y)::m:=by conv=>lhs;unfold ie;rw [bK hq]
   rw [hm,List.modify_zero_cons]
   exact⟨rfl,hv,fun p hp=>by rw [<-hq];exact h3 p hp,h4⟩
  |succ j=>
   have he' :es[j]? =some e:=by simpa using he
   obtain⟨y',hy'⟩: ∃q' ∈m,q'.1=k:=by
    have hmem: ∀{es:List MapEntry} {m:List (κ×β)},rJ γ kv S es m-> ∀(j:Nat) (e:MapEntry),es[j]? =some e->e.key=kv k-> ∃q' ∈m,q'.1=k:=by
     intro es
     induction es with
     |nil=>intro m _ j e he _;simp at he
     |cons e1 es ih=>
      intro m hm j e he hek
      cases m with
      |nil=>exact hm.elim
      |cons q1 m=>
       obtain⟨g1,_,_,g4⟩:=hm
       cases j with
       |zero=>
        have e2:e1=e:=nO he
        subst e2
        exact⟨q1,ln ..,hinj _ _ (by rw [<-g1,hek])⟩
       |succ j=>
        obtain⟨q',a1,a2⟩:=ih g4 j e (by simpa using he) hek
        exact⟨q',lH _ a1,a2⟩
    exact hmem h4 j e he' hek
   have hq:q.1≠k:=fun e' =>h3 y' hy'.1 (by rw [hy'.2,e'])
   have hm:ie (q::m) k y=q::ie m k y:=by conv=>lhs;unfold ie;rw [bG hq]
   rw [hm,AM]
   exact⟨A,V,Ld hq m h3,Fb hinj hv h4 j e he' hek⟩
def dG(γ:β->Ty)(kv:κ->Value)(b:Nat)(m:List (κ×β)):OE where
 fp:=fun j=>j=b
 p:=fun w S=>S b=none/\ ∃es clock,w.heap[b]? =some (.map es clock)/\rJ γ kv S es.toList m
 here:=by
  intro w S ⟨_,es,clock,h3,_⟩ j hj
  subst hj
  exact(wO.1 h3).1
 kept:=by
  intro C w w' S S' ⟨A,es,clock,h3,h4⟩ k hC
  have hlt:=(wO.1 h3).1
  exact⟨by rw [k.old b hlt (hC b rfl)];exact A,es,clock,by rw [k.heap b hlt (hC b rfl)];exact h3,tG k.keep h4⟩
end
variable{et:TypeId}{rest:List Oper}
section
variable [DecidableEq κ]{k:κ}{x i:Operand}{dst:Option Nat}
def IE(γ:β->Ty)(kv:κ->Value)(hd:Nat.blt d E.N.n=true)(k: ∀b,RG E ops aF rest (dG γ kv b []::O) ((d,tV (am b))::G)):
  RG E ops aF (⟨some d,.makeMap t none,ty,pos,after,none⟩::rest) O G:= .of rfl fun a w S st=>by
 obtain⟨he,hs',hno⟩:=jq (w:=w) (.map #[] 0) st.sat
 have hrun:(execOp a.eval ⟨some d,.makeMap t none,ty,pos,after,none⟩).run E.P w= .ok (.value (am w.heap.size)) (w.alloc (.map #[] 0)):=by
  simp [execOp,Instr.makeMap,am]
 refine⟨fun c h=>(by cases h),?_⟩
 rw [hrun]
 exact k w.heap.size _ _ S ⟨st.ext.step0 he,hs',p9 st.own he ⟨hno,#[],0,wn w _,trivial⟩ (fun b H=>Aw H.symm) st.base_le,st.facts.put hd rfl⟩
def R9{y:β}(hm:E.P.underlying t=some (.map kt et))(hk:ND E.P kt kv)(D:aC E.N G x (tV (am b)))(hi:ui E.N G i (kv k))(hv:aC E.N G v (γ y))
  (h:RG E ops aF rest (dG γ kv b (ie m k y)::O) G):RG E ops aF (⟨none,.mapUpdate t x i v,ty,pos,after,none⟩::rest) (dG γ kv b m::O) G:= .of rfl fun a w S st=>by
 have A:a.eval x=am b:=D S a st.facts
 have V:a.eval i=kv k:=hi S a st.facts
 have h3:(γ y).p S (a.eval v):=hv S a st.facts
 obtain⟨⟨hno,es,clock,h5,h6⟩,_⟩:=st.own.1
 have hlt:=(wO.1 h5).1
 obtain⟨u,g1,g2⟩:=JN hk (k:=k) (w:=w) 0 h6
 have hfk:(Instr.findKey kt (kv k) es.toList).run E.P w= .ok u w:=by rw [run_findKey_eq w hk.wide];exact g1
 obtain⟨X,hrun,hX⟩: ∃X:Obj,(Instr.mapUpdate t (am b) (kv k) (a.eval v)).run E.P w= .ok () {w with heap:=w.heap.setIfInBounds b X}/\ ∃es' cl',X= .map es' cl' /\rJ γ kv S es'.toList (ie m k y):=by
  rcases g2 with⟨rfl,g3,g4⟩|⟨j,e,y',rfl,g3,g4,_,_⟩
  ·refine⟨.map (es.push ⟨kv k,a.eval v,clock⟩) (clock+1),?_,_,_,rfl,by rw [Array.toList_push];exact Df hk.inj h3 h6 g3⟩
   simp [Instr.mapUpdate,am,gP hm,GM h5,hk.chk,hfk,Result.andThen,Kz _ h5]
  ·refine⟨.map (es.modify j fun e=>{e with key:=kv k,val:=a.eval v}) clock,?_,_,_,rfl,by rw [Array.toList_modify];exact Fb hk.inj h3 h6 j e g3 g4⟩
   have hgd:((es[j]?).map (·.key)).getD (kv k)=kv k:=by
    rw [<-Ky,g3];exact g4
   simp only [ph]at hfk
   simp [Instr.mapUpdate,am,gP hm,GM h5,hk.chk,hfk,Result.andThen,hgd,Instr.keyThatStays,hk.same,Kz _ h5]
 have hrun' :(execOp a.eval ⟨none,.mapUpdate t x i v,ty,pos,after,none⟩).run E.P w= .ok .skip {w with heap:=w.heap.setIfInBounds b X}:=by simp [execOp,A,V,hrun]
 obtain⟨es',cl',rfl,h7⟩:=hX
 refine⟨fun c h=>(by cases h),?_⟩
 rw [hrun']
 obtain⟨q1,q2⟩:=MapKept.heap_set (o' := .map es' cl') h5
 obtain⟨f1,f2,f3⟩:=kw (O:=O) st.sat (w' :={w with heap:=w.heap.setIfInBounds b (.map es' cl')}) (dG γ kv b m) (dG γ kv b (ie m k y)) st.own (fun _=>qu) (fun _=>qu) ⟨rfl,rfl,rfl,by simp,eX _⟩ (fun j hj=>q2 j hj) ⟨hno,es',cl',q1,h7⟩ hno
 exact h _ _ S ⟨st.ext.step f1 (fun c hc=>st.own.1.2 c hc),f2,f3,st.facts⟩
end

section
variable [DecidableEq κ]{k:κ}{x i:Operand}{dst:Option Nat}
end
variable{os:Array Obj}
section
variable [DecidableEq κ]{h2:MV β}{os:List (Option Nat×Nat)}{h:Option κ}{x:Operand}{dst:Option Nat}
end
section
variable{e:Exit}
end


structure RM{α β:Type}(tD:Nat)(F:Rp α->Rp β):Prop where
 sz: ∀r r',r.sz=tD->r'.sz=tD->(F r).sz=(F r').sz
 mono: ∀r r',r.sz=tD->r'.sz=tD->(∀S cs x,r.rc S cs x->r'.rc S cs x)-> ∀S cs x,(F r).rc S cs x->(F r').rc S cs x
 cont: ∀(R:Nat->Rp α),(∀n,(R n).sz=tD)->(∀n S cs x,(R n).rc S cs x->(R (n+1)).rc S cs x)-> ∀r,r.sz=tD->(∀S cs x,r.rc S cs x-> ∃n,(R n).rc S cs x)-> ∀S cs x,(F r).rc S cs x-> ∃n,∀m,n<=m->(F (R m)).rc S cs x
def RM.map{γ:Type}{tD:Nat}{F:Rp α->Rp β}(f:γ->β)(h:RM tD F):RM tD (fun r=>iT (F r) f):=
 ⟨fun r r' A V=>h.sz r r' A V,fun r r' A V h3 S cs x q=>h.mono r r' A V h3 S cs (f x) q,fun R hR up r hr h3 S cs x q=>h.cont R hR up r hr h3 S cs (f x) q⟩

section
variable{c:Code}{e:Exit}
end

variable{ys:List α}
section
def KV{q:Rp α}(hq:q.sz=1){cs:List Value}{m:Nat}(h:pF q S cs xs)(hm:m<=xs.length):pF q S (cs.take m) (xs.take m)/\pF q S (cs.drop m) (xs.drop m):=by
 have:=nH (xs:=xs.take m) (ys:=xs.drop m) (by rw [rX];exact h)
 rwa [zf,xM hm,hq,BR]at this
def rL{α:Type}(xs ys:List α):List α:=ys.take xs.length++xs.drop (min ys.length xs.length)
def tJ:(rL xs ys).length=xs.length:=by
 unfold rL
 simp
 omega
end
variable{mm:Bool}
section
variable{c:Code}
def L6{lo hi:Int}(hs:cE xs lo hi=some ys)(h:wk mm r U l cap xs w S)(hS:kb w S): ∃S1,kb w S1/\(K (eF r) ys).p S1 (lV r.sz l cap lo.toNat ys.length):=by
 obtain⟨S1,_,k2,hd⟩:=WY h hS
 refine⟨S1,k2,?_⟩
 obtain⟨l',m,rfl,rfl,h7,h8,rfl⟩:=fe hs
 obtain⟨ad,c,A,V,h3,h4⟩:=kR.1 hd
 have hlen:((xs.take m).drop l').length=m-l' :=by simp;omega
 cases l with
 |none=>
  obtain⟨cells,g1,_⟩:=h
  have D:xs=[]:=sW g1.1
  subst D
  have e:((([]:List α).take m).drop l')=[]:=by simp
  rw [e]
  exact yd
 |some b=>
  have e1:Value.slice (some ⟨b,0,none⟩) xs.length cap= .slice ad xs.length c:=A
  injection e1 with e2 _ e3
  subst e2
  subst e3
  have h5:=wW h4 h7 h8 V
  refine kR.2 ⟨_,cap-l',?_,by omega,by omega,h5⟩
  unfold lV
  simp only [Ft,hlen,Eg,gE,ph]
  split<;>rfl
def Qq{sz:Nat}(ti:TI P T sz bytes agg z):(P.info? T).map (·.size)=some sz:=by
 obtain⟨i,_,hi,hs,_⟩:=ti.get
 simp [hi,hs]
def MA{α:Type}:Rp α where
 sz:=1
 agg:=false
 rc:=fun _ cs _=> ∃v,cs=[v]/\v.oneCell' =true
 mono:=fun _ h=>h
 len:=fun⟨v,h,_⟩=>by rw [h];rfl
 one:=fun⟨v,h,k⟩ c hc=>by rw [h]at hc;simp at hc;subst hc;exact k
 sc:=fun _=>rfl
def Gy{l:List α}{e:α}(h:xs.drop i=e::l):(i:Int)<(xs.length:Int):=by
 have:=congrArg List.length h
 simp at this
 omega
def o9{n:Nat}{x ix:Operand}{y:α}{k:IntKind}{i:Int}{sz:Nat}(M:E.P.underlying t=some (.slice e))(ti:TI E.P e sz bytes agg z)(hm:jL mm r U l cap xs∈O)(D:aC E.N G x (tV (Y l cap n)))(hi:aC E.N G ix (K (rI k) i))(hy:fE xs i=some y)(hlt:i<(n:Int)):
  bM E O G ⟨dst,.indexAddr t x ix,ty,pos,after,g⟩ (tV (cK l (i.toNat*sz+0))):=
 .of_pure fun a w S _ ho hf=>by
  have A:a.eval x=Y l cap n:=D S a hf
  have h3:a.eval ix= .int k i:=eD.1 (hi S a hf)
  obtain⟨h0,hy'⟩:=iu hy
  obtain⟨b,cur,rfl,_⟩:=n7 (ho.mem _ hm).1 hy'
  refine⟨_,?_,rfl⟩
  have hc:0<=i/\i<(n:Int):=⟨h0,hlt⟩
  simp [execOp,A,h3,Y,Instr.indexAt,asIntOf,gP M,hc,ti.sizeOf,gE,cK,ak]
end

def Dk{zs:List α}(h:rL xs ys=zs):zs.length=xs.length:=by rw [<-h,tJ]

def iX(p:cB×cB):Value:= .agg #[dn p.1,dn p.2]
def W0{kt el sz:Nat}{l:Array Field} [DecidableEq α]{mk:cB×cB->α}(h:P.underlying kt=some (.struct l))(hl:l.toList.map (fun f=>(f.type,f.offset))=[(el,0),(el,1)])(he:P.underlying el=some .string)(ti:TI P el sz bytes agg z)(hsz:Nat.beq sz 1=true)(hag:r.agg=true)(hr: ∀p:cB×cB,r.rc (fun _=>none) [dn p.1,dn p.2] (mk p))(hinj: ∀p q,mk p=mk q->p=q)(hq:LW P kt r):ND P kt iX where
 chk:=fun e w k=>by
  obtain⟨i,zv,hi,hs,_⟩:=ti.get
  have A:sz=1:=nk hsz
  have ha:(isAgg el).run P w= .ok false w:=by
   simp [isAgg,gP he,Result.andThen]
  have h3: ∀(j:Nat) (x:cB) (cs:Array Value),cs[j]? =some (dn x)->(part el cs j).run P w= .ok (dn x) w:=fun j x cs hj=>by
   simp [part,ha,Result.andThen,hj]
  have h4: ∀x:cB,(Instr.checkKey e 9999 el (dn x)).run P w= .ok () w:=fun x=>by
   show(Instr.checkKey e (9998+1) el (dn x)).run P w= .ok () w
   unfold Instr.checkKey
   simp only [ow,gP he,pl]
   rfl
  have e1:=h3 0 k.1 #[dn k.1,dn k.2] rfl
  have e2:=h3 1 k.2 #[dn k.1,dn k.2] rfl
  obtain⟨l0,rfl⟩: ∃l0:List Field,l=l0.toArray:=⟨l.toList,by simp⟩
  have hlen:l0.length=2:=by simpa using congrArg List.length hl
  obtain⟨f0,f1,rfl⟩: ∃f0 f1,l0=[f0,f1]:=by
   match l0,hlen with
   |[a,b],_=>exact⟨a,b,rfl⟩
  simp only [sn,List.map_nil,List.cons.injEq,Prod.mk.injEq,and_true]at hl
  obtain⟨⟨a0,b0⟩,⟨a1,b1⟩⟩:=hl
  show(Instr.checkKey e (9999+1) kt (iX k)).run P w= .ok () w
  unfold Instr.checkKey
  simp only [iX,ow,gP h,pl]
  by_cases n0:f0.name= "_" <;>by_cases n1:f1.name= "_" <;>simp [n0,n1,a0,a1,b0,b1,e1,e2,h4,Result.andThen]
 eql:=fun w a b=>by
  have:=hq.run (fun _=>none) _ _ _ _ 9980 w (hr a) (hr b)
  have e1:decide (mk a=mk b)=decide (a=b):=zg.2 ⟨fun e=>hinj a b e,fun e=>by rw [e]⟩
  rw [e1]at this
  have hv: ∀p:cB×cB,r.val [dn p.1,dn p.2]=iX p:=fun p=>by simp [Rp.val,hag,iX]
  rw [hv,hv]at this
  show(Op.equalIn (9980+20) kt (iX a) (iX b)).run P w=_
  exact this
 wide:=by rw [h]
 same:=fun k=>by
  show Instr.sameBits (9999+1) (iX k) (iX k)=true
  unfold Instr.sameBits iX dn
  simp only [List.zip_cons_cons,List.zip_nil_left,uj,List.all_nil]
  unfold Instr.sameBits
  simp
  have H: ∀l:ByteArray,(l==l)=true:=fun l=>by
   cases l with
   |mk d=>exact(Ay d:(d==d)=true)
  exact⟨H _,H _⟩
 inj:=fun a b h=>by
  obtain⟨a1,a2⟩:=a;obtain⟨b1,b2⟩:=b
  simpa [iX,dn] using h
section
variable [DecidableEq κ]{k:κ}{x i:Operand}{dst:Option Nat}
def OT{x:Operand}{y:α}{p:cB×cB}(hag:r.agg=true)(hr: ∀S cs,r.rc S cs y->cs=[dn p.1,dn p.2])(h:aC N G x (K r y)):ui N G x (iX p):=fun S a hf=>by
 obtain⟨cs,e,A⟩:=h S a hf
 rw [e,hr S cs A]
 simp [Rp.val,hag,iX]
def HH{z:β}{zv:Value}(hm:E.P.underlying t=some (.map kt et))(hk:ND E.P kt kv)(hz:ZV E.P et zv)(hzt: ∀S,(γ z).p S zv)(hmem:dG γ kv b m∈O)(D:aC E.N G x (tV (am b)))(hi:ui E.N G i (kv k)):
  bM E O G ⟨dst,.lookup t x i true,ty,pos,after,g⟩ (tT [γ ((fD m k).getD z),K rB (fD m k).isSome]):= .of_pure fun a w S hs ho hf=>by
 obtain⟨⟨_,es,clock,h3,h4⟩,_⟩:=cH.mem ho _ hmem
 have A:a.eval x=am b:=D S a hf
 have V:a.eval i=kv k:=hi S a hf
 obtain⟨u,g1,g2⟩:=JN hk (k:=k) (w:=w) 0 h4
 have hfk:(Instr.findKey kt (kv k) es.toList).run E.P w= .ok u w:=by rw [run_findKey_eq w hk.wide];exact g1
 rcases g2 with⟨rfl,_,g3⟩|⟨j,e,y,rfl,_,_,g3,g4⟩
 ·refine⟨.tuple #[zv,.bool false],?_,_,rfl,by rw [g3];exact hzt S,by rw [g3];exact iP.2 rfl,trivial⟩
  simp [execOp,A,V,Instr.lookup,am,gP hm,GM h3,hk.chk,hfk,hz.run,Result.andThen]
 ·refine⟨.tuple #[e.val,.bool true],?_,_,rfl,by rw [g3];exact g4,by rw [g3];exact iP.2 rfl,trivial⟩
  simp [execOp,A,V,Instr.lookup,am,gP hm,GM h3,hk.chk,hfk,Result.andThen]
def Nj{os:List (Option Nat×Nat)}{m:List (κ×List α)}(hm:E.P.underlying t=some (.map kt et))(hk:wH E.P kt kv)(hz:ZV E.P et (.slice none 0 0))(D:aC E.N G x (tV (am b)))(hi:ui E.N G i (kv k)):
  EffOK E (br (Sr r T) kv b none os m::O) G ⟨some d,.lookup t x i false,ty,pos,after,g⟩ (fun j=>Z r T (j.h 0).1 (j.h 0).2 ((fD m k).getD [])::br (Sr r T) kv b (some k) j.os m::O) (fun j=>tO r (j.h 0).1 (j.h 0).2 ((fD m k).getD [])):=fun a w S hs ho hf H=>by
 obtain⟨⟨⟨hno,hnb,es,clock,h3,h4,hst⟩,hfp⟩,hap,hO⟩:=ho
 obtain⟨q,hq,hdk,hinj⟩:=hk
 have A:a.eval x=am b:=D S a hf
 have V:a.eval i=kv k:=hi S a hf
 obtain⟨os',p1,p2,h5⟩:=nz hdk hinj (k:=k) 0 h4
 have hn: ∀o∈os',o.1≠some b:=fun o ho=>by
  rcases p1 o ho with h|h
  ·exact hnb o h
  ·rw [h];exact fun e=>by cases e
 have hfp' : ∀j,(j=b\/ ∃o∈os',o.1=some j)->(j=b\/ ∃o∈os,o.1=some j):=fun j hj=>hj.imp id fun⟨o,ho,e⟩=>by
  rcases p1 o ho with h|h
  ·exact⟨o,h,e⟩
  ·rw [h]at e;cases e
 rcases h5 with⟨g1,g2⟩|⟨y,o,e,j,g1,g2,g3,g4,g5⟩
 ·have hrun:(execOp a.eval ⟨some d,.lookup t x i false,ty,pos,after,g⟩).run E.P w= .ok (.value (.slice none 0 0)) w:=by simp [execOp,A,V,jm hm hq (hdk k) h3 hz g2]
  refine⟨fun c h=>(by cases h),?_⟩
  rw [hrun]
  exact⟨_,S,{h:=fun _=>(none,0),os:=os' },rfl,je.refl _ _ _,hs,⟨⟨⟨[],⟨by rw [g1];rfl,rfl⟩,by rw [g1];rfl,fun b H=>(by cases H)⟩,fun j hj=>(by cases hj)⟩,fun f _ j hj=>(by cases hj),⟨⟨hno,hn,es,clock,h3,p2,hst⟩,fun j hj=>hfp j (hfp' j hj)⟩,fun f hf j hj=>hap f hf j (hfp' j hj),hO⟩,
   by rw [g1];rfl,by rw [g1];exact yd⟩
 ·have hrun:(execOp a.eval ⟨some d,.lookup t x i false,ty,pos,after,g⟩).run E.P w= .ok (.value e.val) w:=by simp [execOp,A,V,jm hm hq (hdk k) h3 hz g4]
  refine⟨fun c h=>(by cases h),?_⟩
  rw [hrun]
  have hy:(fD m k).getD []=y:=by rw [g1];rfl
  refine⟨_,S,{h:=fun _=>o,os:=os' },rfl,je.refl _ _ _,hs,⟨⟨by rw [hy];exact g3.2,fun j hj=>hfp j (.inr ⟨o,g2,hj⟩)⟩,fun f hf j hj=>?_,⟨⟨hno,hn,es,clock,h3,p2,hst⟩,fun j hj=>hfp j (hfp' j hj)⟩,fun f hf j hj=>hap f hf j (hfp' j hj),hO⟩,
   by rw [hy];exact g3.1,by rw [hy,g3.1];exact kp g3.2⟩
  rcases lK.1 hf with rfl|hf
  ·intro hj'
   rcases hj' with rfl|⟨o',ho',e'⟩
   ·exact hnb o g2 hj
   ·exact g5 o' ho' j hj e'
  ·exact hap f hf j (.inr ⟨o,g2,hj⟩)
end
def J2{q:Rp α}{zs:List α}{x y:Operand}{dT sT el:TypeId}(hq:q.sz=1)(hu:E.P.underlying dT=some (.slice el))(hs:(E.P.info? el).map (·.size)=some 1)(D:aC E.N G x (tV (Y l cap xs.length)))(hy: ∀a w S,kb w S->cH E.base E.B w S (fq q U l cap xs::O)->cm E.N S a G-> ∃S1,kb w S1/\(K (eF q) ys).p S1 (a.eval y)/\ ∀cs zs,pF q S1 cs zs->pF q S cs (zs:List α))(hz:rL xs ys=zs):
  EffOK E (fq q U l cap xs::O) G ⟨some d,.call ⟨.builtin .copy,#[x,y],#[dT,sT]⟩,ty,pos,after,g⟩ (fun _=>fq q U l cap zs::O) (fun _=>K (rI .i64) ((min ys.length xs.length:Nat):Int)):=fun a w S hs0 ho hf H=>by
 subst hz
 have A:a.eval x=Y l cap xs.length:=D S a hf
 obtain⟨S1,hs1,hy1,hback⟩:=hy a w S hs0 ho hf
 obtain⟨ad,cap',V,_,_,h3⟩:=kR.1 hy1
 obtain⟨⟨cells,hraw,hrc,hS⟩,hbase⟩:=ho.1
 have hm:min ys.length xs.length<=ys.length:=Nat.min_le_left _ _
 cases l with
 |none=>
  have hx0:xs=[]:=sW hraw.1
  subst hx0
  have hrun:(Builtin.copy_ #[dT,sT] ty #[.slice none 0 0,a.eval y]).run E.P w= .ok (goInt 0) w:=by
   rw [V]
   cases hel:E.P.info? el with
   |none=>simp [hel]at hs
   |some i=>
    have hi:i.size=1:=by simpa [hel] using hs
    cases ad with
    |none=>simp [Builtin.copy_,gP hu,Builtin.lenOf,Builtin.firstCells,sizeOf,typeInfo,hel,hi,storeCells]
    |some p=>
     have hl:=run_loadCells_list (P:=E.P) w p [] (fun j v hv=>by simp at hv)
     simp only [pj]at hl
     simp [Builtin.copy_,gP hu,Builtin.lenOf,Builtin.firstCells,sizeOf,typeInfo,hel,hi,storeCells,hl]
  have hx' :(execOp a.eval ⟨some d,.call ⟨.builtin .copy,#[x,y],#[dT,sT]⟩,ty,pos,after,g⟩).run E.P w= .ok (.value (goInt 0)) w:=by
   have h1' :a.eval x= .slice none 0 0:=A
   simp [execOp,resolve,h1',invoke,builtin,hrun]
  refine⟨fun c h=>(by cases h),?_⟩
  rw [hx']
  refine⟨_,S,nQ,rfl,je.refl _ _ _,hs0,?_,?_⟩
  ·have e:rL ([]:List α) ys=[]:=by unfold rL;simp
   rw [e];exact ho
  ·exact eD.2 (by simp [goInt])
 |some b=>
  obtain⟨cur,g1,g2,g3,g4,g5⟩:=hraw
  rw [hq,BR]at g4 g5
  have h1' :a.eval x= .slice (some ⟨b,0,none⟩) xs.length cap:=A
  have hxl:xs.length<=cur.toList.length:=by simp [g4];exact g2
  obtain⟨cs,hcs,hrun,hlen⟩: ∃cs,pF q S cs (ys.take (min ys.length xs.length))/\(Builtin.copy_ #[dT,sT] ty #[.slice (some ⟨b,0,none⟩) xs.length cap,a.eval y]).run E.P w= .ok (goInt cs.length) (w.setRow b (cs++cur.toList.drop cs.length).toArray)/\cs.length=min ys.length xs.length:=by
   rw [V]
   rcases h3 with rfl|⟨b',off,c,T',fr,rfl,e2,e3⟩
   ·refine⟨[],by simp [pF],?_,by simp⟩
    cases hel:E.P.info? el with
    |none=>simp [hel]at hs
    |some i=>
     have hi:i.size=1:=by simpa [hel] using hs
     have hself:w.setRow b (([]:List Value)++cur.toList.drop ([]:List Value).length).toArray=w:=by simpa using setRow_self w b cur U (0,0) g1
     rw [hself]
     cases ad with
     |none=>simp [Builtin.copy_,gP hu,Builtin.lenOf,Builtin.firstCells,sizeOf,typeInfo,hel,hi,storeCells]
     |some p=>
      have hl:=run_loadCells_list (P:=E.P) w p [] (fun j v hv=>by simp at hv)
      simp only [pj]at hl
      simp [Builtin.copy_,gP hu,Builtin.lenOf,Builtin.firstCells,sizeOf,typeInfo,hel,hi,storeCells,hl]
   ·obtain⟨c',h8,h9⟩:=hs1.part e2 (kl e3)
    obtain⟨d1,d2⟩:=KV hq e3 hm
    rw [A2,hq,BR,xM hm]at d1
    have hl:((c.toList.drop off).take (min ys.length xs.length)).length=min ys.length xs.length:=by
     rw [kl d1,hq,BR,zf,xM hm]
    refine⟨_,hback _ _ d1,?_,hl⟩
    have:=run_copy_row (P:=E.P) w dT sT ty el b 0 xs.length cap ⟨b',off,none⟩ ys.length cap' cur U ((c.toList.drop off).take (min ys.length xs.length)) hu hs g1 hl (fun j v hv=>?_) (by rw [hl];simp at hxl;omega) (ym d1)
    ·simpa using this
    ·have hj:j<min ys.length xs.length:=by rw [<-hl];exact(pG.1 hv).1
     have hcell:w.cell? ⟨b',off+j,none⟩=c'[off+j]? :=vS h8 _
     rw [gE]
     show w.cell? ⟨b',off+j,none⟩=_
     rw [hcell]
     have h10:((c'.toList.drop off).take (ys.length*q.sz))[j]? =((c.toList.drop off).take (ys.length*q.sz))[j]? :=by rw [h9]
     rw [zk (by rw [hq];omega),zk (by rw [hq];omega),ul,ul]at h10
     rw [zk hj,ul]at hv
     rw [<-hv,<-Ky,h10]
  have hx' :(execOp a.eval ⟨some d,.call ⟨.builtin .copy,#[x,y],#[dT,sT]⟩,ty,pos,after,g⟩).run E.P w= .ok (.value (goInt cs.length)) (w.setRow b (cs++cur.toList.drop cs.length).toArray):=by
   simp [execOp,resolve,h1',invoke,builtin,hrun]
  refine⟨fun c h=>(by cases h),?_⟩
  rw [hx']
  have hle:min ys.length xs.length<=xs.length:=Nat.min_le_right _ _
  have hrc' :pF q S (cur.toList.take xs.length) xs:=by rw [g5];exact hrc
  obtain⟨_,d4⟩:=KV hq hrc' hle
  have hno:S b=none:=hS b rfl
  have hnew:wk false q U (some b) cap (rL xs ys) (w.setRow b (cs++cur.toList.drop cs.length).toArray) S:=by
   refine⟨(cs++cur.toList.drop cs.length).take xs.length,⟨_,setRow_heap w b cur _ U _ g1,by rw [tJ];exact g2,g3,?_,by rw [tJ,hq,BR]⟩,?_,fun b' hb' =>by cases hb';exact hno⟩
   ·simp [hlen,hq];simp at hxl;omega
   ·unfold rL
    have e1:ys.take xs.length=ys.take (min ys.length xs.length):=by rw [List.take_eq_take_iff];omega
    have e2:(cs++cur.toList.drop cs.length).take xs.length=cs++(cur.toList.take xs.length).drop cs.length:=by
     rw [List.take_append,pJ (by omega),xT]
    rw [e1,e2,hlen]
    exact qF hcs d4
  obtain⟨k1,k2,k3⟩:=kw (O:=O) hs0 (w' :=w.setRow b (cs++cur.toList.drop cs.length).toArray) (fq q U (some b) cap xs) (fq q U (some b) cap (rL xs ys)) ho (fun k=>by simp [fq,jL];exact eq_comm) (fun k=>by simp [fq,jL];exact eq_comm) ⟨rfl,rfl,rfl,by simp [World.setRow],eX _⟩ (fun k hk=>setRow_other w b k _ hk) hnew hno
  refine⟨_,S,nQ,rfl,k1.more fun k hk=>⟨_,ln ..,by subst hk;rfl⟩,k2,k3,?_⟩
  rw [hlen]
  exact eD.2 rfl
def J1{k:IntKind}{h2:TypeId}{l2:Option Nat}{cap2:Nat}{xs ys zs ws:List Int}{lo hi:Int}{x y:Operand}{dT sT el:TypeId}(hm:jL mm (rI k) h2 l2 cap2 ws∈fq (rI k) U l cap xs::O)(hsl:cE ws lo hi=some ys)(hu:E.P.underlying dT=some (.slice el))(hs:(E.P.info? el).map (·.size)=some 1)(D:aC E.N G x (tV (Y l cap xs.length)))(hy:aC E.N G y (tV (lV 1 l2 cap2 lo.toNat ys.length)))(hz:rL xs ys=zs):
  EffOK E (fq (rI k) U l cap xs::O) G ⟨some d,.call ⟨.builtin .copy,#[x,y],#[dT,sT]⟩,ty,pos,after,g⟩ (fun _=>fq (rI k) U l cap zs::O) (fun _=>K (rI .i64) ((min ys.length xs.length:Nat):Int)):=
 J2 rfl hu hs D (fun a w S hs0 ho hf=>by
  obtain⟨S1,A,V⟩:=L6 hsl (cH.mem ho _ hm).1 hs0
  refine⟨S1,A,?_,fun cs zs h=>by rw [CC h];exact(CC h)▸Hx (fun h=>h) h⟩
  rw [show a.eval y=lV 1 l2 cap2 lo.toNat ys.length from hy S a hf]
  exact V) hz
abbrev KF:Option Nat×Nat:=(none,0)
def QL(l:List (Option Nat×Nat))(os:List (List (Option Nat×Nat))):OI:={h:=fun n=>l.getD n (none,0),oss:=fun n=>os.getD n []}
def OZ{get:α->Value}{cs:List Value}{x:α}(h:g9 r off rV get)(k:r.rc S cs x):cs[off]? =some (get x):=by
 have A:(cs.drop off).take 1=[get x]:=(h S cs x k).1
 rw [List.take_one,List.head?_drop]at A
 cases hc:cs[off]? with
 |none=>rw [hc]at A;cases A
 |some v=>rw [hc]at A;simpa using A

def Cf(t:Ty):Ty where
 p:=fun S v=>v.oneCell' =true/\t.p S v
 mono:=fun h ⟨e,k⟩=>⟨e,t.mono h k⟩
def Vc{t:Ty}: ∀S v,(Cf t).p S v->t.p S v:=fun _ _ h=>h.2
def Ts{t:Ty}: ∀S v,(Cf t).p S v->v.oneCell' =true:=fun _ _ h=>h.1
def Qv(n:FuncId)(pre post:List Ty)(b:Nat):Ty where
 p:=fun S v=> ∃us vs,v= .func (.func n) #[] (us++ak b 0::vs).toArray/\wl S pre us/\wl S post vs
 mono:=fun h ⟨us,vs,e,k1,k2⟩=>⟨us,vs,e,k1.mono h,k2.mono h⟩
variable{post pre:List Ty}
def Tt: ∀S v,(Qv n pre post b).p S v->v.oneCell' =true:=fun _ _ ⟨_,_,e,_⟩=>by rw [e];rfl
def Qu(n:FuncId)(pre post:List Ty)(b:Nat):Ty:=WK (ak b 0) (aU (rT (Qv n pre post b)) ())
variable{Ob:X->OI->List OE}{args:h1->List Ty}{res:ρ->Ty}
section
def MH{caps:List Operand}{cts:List Ty}(hc:aj E.P fid=true)(hp:iA E.N G caps cts)(hs: ∀x y R,f x y=some R-> ∀i,ek E.P fid (args y++cts) (Ob x i) (fun _:OI=>res R.1) (fun j=>Ob R.2 j)):
  bM E O G ⟨dst,.makeFunc (.func fid) #[] caps.toArray,ty,pos,after,g⟩ (Cf (kh E.P args Ob res f)):= .of_pure fun a w S _ _ hf=>by
 have A:=hp.tys hf
 refine⟨.func (.func fid) #[] (caps.map a.eval).toArray,by simp [execOp,Instr.makeFunc],rfl,fun x y R hR=>⟨fid,#[],(caps.map a.eval).toArray,rfl,hc,fun i w' S' vs hle hsat hv ho=>?_⟩⟩
 have:=hs x y R hR i w' S' (vs++caps.map a.eval) hsat (hv.append (A.mono hle)) ho
 rw [show(#[]++vs.toArray++(caps.map a.eval).toArray:Array Value)=(vs++caps.map a.eval).toArray from by simp]
 exact this
def MI{xs ys:List Operand}{x:Operand}(A:iA E.N G xs pre)(D:aC E.N G x (tV (ak b 0)))(V:iA E.N G ys post):
  bM E O G ⟨dst,.makeFunc (.func n) #[] (xs++x::ys).toArray,ty,pos,after,g⟩ (Qv n pre post b):= .of_pure fun a w S _ _ hf=>by
 have h3:a.eval x=ak b 0:=D S a hf
 exact⟨.func (.func n) #[] ((xs++x::ys).map a.eval).toArray,by simp [execOp,Instr.makeFunc],xs.map a.eval,ys.map a.eval,by simp [h3],A.tys hf,V.tys hf⟩
def EK{p:Operand}(ti:TI E.P U 1 bytes false z)(hp:aC E.N G p (Qu n pre post b)):bM E O G ⟨dst,.load U p,ty,pos,after,g⟩ (Qv n pre post b):=qG ti (Vb hp)
def EI{t:Ty}{p:Operand}(ti:TI E.P U 1 bytes false z)(hp:aC E.N G p (aU (rT (Cf t)) ())):bM E O G ⟨dst,.load U p,ty,pos,after,g⟩ t:=(qG ti hp).imp Vc
def Dg{pst:List Ty}{fo cp:Operand}{xs:List Operand}(O1 Or:List OE){t:OI->Ty}{O2 post:OI->List OE}(hO:O=O1++Or)(hf:aC E.N G fo (Qv n pre pst b))(hcp:aC E.N G cp (Qu n pre pst b))(hc:aj E.P n=true)(hs:ek E.P n (ts++(pre++Qu n pre pst b::pst)) O1 t O2)(D:iA E.N G xs ts)(hpost: ∀i,O2 i++Or=post i):
  EffOK E O G ⟨some d,.call ⟨.value fo,xs.toArray,ats⟩,ty,pos,after,g⟩ post t:=fun a w S hsat ho hF H=>by
 subst hO
 obtain rfl:(fun i=>O2 i++Or)=post:=funext hpost
 obtain⟨us,vs,e,A,V⟩:=hf S a hF
 have h3:(Qu n pre pst b).p S (ak b 0):=by
  have:=hcp S a hF
  exact⟨rfl,this.2⟩
 have hr:(execOp a.eval ⟨some d,.call ⟨.value fo,xs.toArray,ats⟩,ty,pos,after,g⟩).run E.P w= .ok (.enter n (xs.map a.eval++(us++ak b 0::vs)).toArray) w:=by
  simp [execOp,resolve,e,Deferred.ofValue,invoke,hZ hc]
 refine⟨fun c h=>(by cases h),?_⟩
 rw [hr]
 have h4:wl S (ts++(pre++Qu n pre pst b::pst)) (xs.map a.eval++(us++ak b 0::vs)):=(D.tys hF).append (A.append ⟨h3,V⟩)
 exact(hs w S _ hsat h4 (nM ho).1.weak).mono fun en w' ⟨i,v,S',he,hv,A,V,h3,h4⟩=>⟨_,he,v,S',i,rfl,A.more fun b ⟨f,hf,H⟩=>⟨f,BQ _ hf,H⟩,V,cH.turn ho H A h3 h4,hv⟩
end
def PZ(P:Program){h1 X ρ:Type}(args:h1->List Ty)(Ob:X->OI->List OE)(res:ρ->Ty):Rp (X->h1->Option (ρ×X)) where
 sz:=1
 agg:=false
 rc:=fun S cs f=> ∃v,cs=[v]/\v.oneCell' =true/\(kh P args Ob res f).p S v
 mono:=fun h ⟨v,e,k,k2⟩=>⟨v,e,k,(kh _ _ _ _ _).mono h k2⟩
 len:=fun⟨v,h,_⟩=>by rw [h];rfl
 one:=fun⟨v,h,k,_⟩ c hc=>by rw [h]at hc;simp at hc;subst hc;exact k
 sc:=fun _=>rfl
def Th{x:Operand}(h:aC N G x (K (PZ P args Ob res) f)):aC N G x (kh P args Ob res f):=fun S a hf=>by
 obtain⟨cs,e,v,rfl,_,k⟩:=h S a hf
 rw [e];exact k
section
def qi{p:Operand}(hc:aj E.P fid=true)(hp:aC E.N G p (tV (ak b 0)))(hs: ∀x y R,f x y=some R-> ∀i,ek E.P fid (tV (ak b 0)::args y) (Ob x i) (fun _:OI=>res R.1) (fun j=>Ob R.2 j)):
  bM E O G ⟨dst,.makeFunc (.func fid) #[p] #[],ty,pos,after,g⟩ (K (PZ E.P args Ob res) f):= .of_pure fun a w S _ _ hf=>by
 have A:a.eval p=ak b 0:=hp S a hf
 refine⟨.func (.func fid) #[ak b 0] #[],by simp [execOp,Instr.makeFunc,A],[_],rfl,_,rfl,rfl,fun x y R hR=>⟨fid,#[ak b 0],#[],rfl,hc,fun i w' S' vs _ hsat hv ho=>?_⟩⟩
 have:=hs x y R hR i w' S' (ak b 0::vs) hsat ⟨rfl,hv⟩ ho
 rw [show(#[ak b 0]++vs.toArray++ #[]:Array Value)=(ak b 0::vs).toArray from by simp]
 exact this
end
variable{x0 x1 x10 x11 x12 x13 x14 x15 x2 x3 x4 x5 x6 x7 x8 x9:OE}
section
variable{c:Code}{e:Exit}{base:Nat}{B:Nat->Prop}{o:Oper}{post:OI->List OE}{t:OI->Ty}
def E0:(x0::x1::x2::x3::x4::x5::x6::x7::x8::x9::x10::x11::x12::x13::x14::x15::O).Perm (x15::x0::x1::x2::x3::x4::x5::x6::x7::x8::x9::x10::x11::x12::x13::x14::O):=(List.perm_middle (l₁:=[x0,x1,x2,x3,x4,x5,x6,x7,x8,x9,x10,x11,x12,x13,x14]) (l₂:=O))
def Dz(h:RG E ops aF rest (x15::x0::x1::x2::x3::x4::x5::x6::x7::x8::x9::x10::x11::x12::x13::x14::O) G):RG E ops aF rest (x0::x1::x2::x3::x4::x5::x6::x7::x8::x9::x10::x11::x12::x13::x14::x15::O) G:=fun a w S st=>h a w S (st.own_map fun ho=>ho.perm E0)
def nB(h:AT E aF e (x15::x0::x1::x2::x3::x4::x5::x6::x7::x8::x9::x10::x11::x12::x13::x14::O) G):AT E aF e (x0::x1::x2::x3::x4::x5::x6::x7::x8::x9::x10::x11::x12::x13::x14::x15::O) G:=fun a w S st=>h a w S (st.own_map fun ho=>ho.perm E0)
def PJ:(x0::x1::x2::x3::x4::x5::x6::x7::x8::x9::x10::x11::O).Perm (x1::x2::x3::x4::x5::x6::x7::x8::x9::x10::x11::x0::O):=(List.perm_middle (l₁:=[x1,x2,x3,x4,x5,x6,x7,x8,x9,x10,x11]) (l₂:=O)).symm
def mD(h:EffOK E (x1::x2::x3::x4::x5::x6::x7::x8::x9::x10::x11::x0::O) G o post t):EffOK E (x0::x1::x2::x3::x4::x5::x6::x7::x8::x9::x10::x11::O) G o post t:=EffOK.perm h (fun ho=>ho.perm PJ) (fun f hf=>PJ.symm.subset hf)
def PI:(x0::x1::x2::x3::x4::x5::x6::x7::x8::x9::x10::x11::x12::O).Perm (x1::x2::x3::x4::x5::x6::x7::x8::x9::x10::x11::x12::x0::O):=(List.perm_middle (l₁:=[x1,x2,x3,x4,x5,x6,x7,x8,x9,x10,x11,x12]) (l₂:=O)).symm
def xE(h:EffOK E (x1::x2::x3::x4::x5::x6::x7::x8::x9::x10::x11::x12::x0::O) G o post t):EffOK E (x0::x1::x2::x3::x4::x5::x6::x7::x8::x9::x10::x11::x12::O) G o post t:=EffOK.perm h (fun ho=>ho.perm PI) (fun f hf=>PI.symm.subset hf)
end
open Go.Sort Go.Shelf

def yB(h:k<w.heap.size):(grow w os).heap[k]? =w.heap[k]? :=by
 unfold grow;exact Array.getElem?_append_left h
variable{enc:α->Value}
def H4 [Inhabited α]{d:Array α}(h:k≠b):(putRow enc w b off d).heap[k]? =w.heap[k]? :=by
 unfold putRow mapBlock
 rw [Array.getElem?_modify,bG (Ne.symm h)]
def yA [Inhabited α]{m:Nat}{d:Array α}(hk:k<w.heap.size)(h:k≠b):(sortWorld enc w b off m d os).heap[k]? =w.heap[k]? :=by
 unfold sortWorld
 rw [yB (by rw [size_putRow];exact hk),H4 h];rfl
def Ga [Inhabited α]{m:Nat}{d:Array α}{c:Array Value}{fr:Nat×Nat}(h:w.heap[b]? =some (.cells c T fr)):
  (sortWorld enc w b off m d os).heap[b]? =some (.cells (putCells enc off d c) T fr):=by
 have hlt:=(wO.1 h).1
 unfold sortWorld
 rw [yB (by rw [size_putRow];exact hlt)]
 unfold putRow mapBlock
 rw [Array.getElem?_modify,bK rfl]
 show Option.map _ (w.heap[b]?)=_
 rw [h];rfl
def D4 [Inhabited α]{d:Array α}{c:Array Value}(h:d.size<=c.size):(putCells enc 0 d c).toList.take d.size=d.toList.map enc:=by
 apply GR
 intro k
 by_cases hk:k<d.size
 ·rw [zk hk]
  have hc:k<c.size:=by omega
  simp [putCells,hc,hk]
 ·rw [El (by simp;omega),El (by simp;omega)]
section
def IC{n m:Nat}(hl:m=n)(s:Nat)(hs:look G s=some (tV (Y l cap n)))(k:RG E ops aF rest O ((s,tV (Y l cap m))::G)):RG E ops aF rest O G:=by
 subst hl
 exact fun a w S st=>k a w S ⟨st.ext,st.sat,st.own,⟨st.facts.size,st.facts.defers,fun j t h=>by
  unfold look at h
  by_cases H:Nat.beq s j=true
  ·rw [H]at h
   have:=nk H
   subst this
   have e:tV (Y l cap m)=t:=by simpa using h
   rw [<-e];exact st.facts.at_ s _ hs
  ·rw [zh]at H
   rw [H]at h
   exact st.facts.at_ j t h⟩⟩
end

def UK{α:Type}(cmp:α×α->Option Int)(x y:α):Bool:=
 match cmp (x,y)with
 |some c=>decide (c<0)
 |none=>false
def Vn{α:Type}(lt:α->α->Bool)(x:α):List α->List α
 |[]=>[x]
 |y::ys=>if lt y x then y::Vn lt x ys else x::y::ys
def Sw{α:Type}(lt:α->α->Bool):List α->List α
 |[]=>[]
 |x::xs=>Vn lt x (Sw lt xs)
structure Good{α:Type}(cmp:α×α->Option Int)(xs:List α):Prop where
 len:xs.length<=1099511627776
 tot: ∀x∈xs,∀y∈xs,(cmp (x,y)).isSome=true
 irr: ∀x∈xs,UK cmp x x=false
 tr: ∀x∈xs,∀y∈xs,∀z∈xs,UK cmp x y=true->UK cmp y z=true->UK cmp x z=true
 anti: ∀x∈xs,∀y∈xs,UK cmp x y=false->UK cmp y x=false->x=y
def sortI(xs:List Int):List Int:=xs.mergeSort fun x y=>decide (x<=y)
def zx(xs:List Int):(sortI xs).length=xs.length:=by unfold sortI;simp
def EU(x:Int):List Int->List Int
 |[]=>[x]
 |y::l=>if x<=y then x::y::l else y::EU x l
def MR:List Int->List Int
 |[]=>[]
 |x::l=>EU x (MR l)
def xg(x:Int): ∀l:List Int,(EU x l).Perm (x::l)
 |[]=> .refl _
 |y::l=>by
  unfold EU
  split
  ·exact .refl _
  ·exact((xg x l).cons y).trans (.swap x y l)
def ET: ∀l:List Int,(MR l).Perm l
 |[]=> .refl _
 |x::l=>(xg x (MR l)).trans ((ET l).cons x)
def HY(x:Int): ∀l:List Int,l.Pairwise (· <= ·)->(EU x l).Pairwise (· <= ·)
 |[],_=>List.pairwise_singleton _ _
 |y::l,h=>by
  have hy: ∀z∈l,y<=z:=fun z hz=>List.rel_of_pairwise_cons h hz
  unfold EU
  split
  ·rename_i D
   refine List.Pairwise.cons (fun z hz=>?_) h
   rcases lK.1 hz with rfl|hz
   ·exact D
   ·exact Int.le_trans D (hy z hz)
  ·rename_i D
   refine List.Pairwise.cons (fun z hz=>?_) (HY x l (List.Pairwise.of_cons h))
   rcases lK.1 ((xg x l).mem_iff.1 hz)with rfl|hz
   ·omega
   ·exact hy z hz
def Lk: ∀l:List Int,(MR l).Pairwise (· <= ·)
 |[]=> .nil
 |x::l=>HY x _ (Lk l)
def QS(l:List Int):MR l=sortI l:=by
 refine List.Perm.eq_of_pairwise (le:=(· <= ·)) (fun a b _ _ A V=>Int.le_antisymm A V) (Lk l) ?_ ((ET l).trans (List.mergeSort_perm l _).symm)
 have:=List.pairwise_mergeSort (le:=fun x y:Int=>decide (x<=y)) (fun a b c A V=>by simp at*;omega) (fun a b=>by simp;omega) l
 exact this.imp fun h=>by simpa using h
def Cg(xs:List Int):Option (List Int):=if xs.length<=68719476736 then some (MR xs)else none
def Ew(xs:List Int):Cg xs=if xs.length<=68719476736 then some (sortI xs)else none:=by
 unfold Cg
 rw [QS]
def Hh{xs ys:List Int}(h:Cg xs=some ys):xs.length<=68719476736/\ys=sortI xs:=by
 rw [Ew]at h
 split at h
 ·exact⟨by assumption,by simpa using h.symm⟩
 ·cases h


def KU{k:IntKind}{S:SH}: ∀{xs:List Int} {cs:List Value},pF (rI k) S cs xs->cs=xs.map (Value.int k)
 |[],cs,h=>by rw [show cs=[]from h];rfl
 |x::xs,cs,⟨a,b,e,A,V⟩=>by
  rw [e,show a=[.int k x]from A,KU V]
  rfl
def Lj{k:IntKind}{S:SH}: ∀xs:List Int,pF (rI k) S (xs.map (Value.int k)) xs
 |[]=>rfl
 |x::xs=>⟨[.int k x],_,rfl,rfl,Lj xs⟩
def Mk{ρ:Ren}(L:Lays.n189 P ρ){xs:List Int}(hlen0:xs.length<=68719476736)(hs:kb w S)(h:(fq (rI .i64) T l cap xs).p w S):
  Calls P (ρ.f 189) #[Y l cap xs.length] w fun e w' =>e= .returned (.tuple #[])/\je (fun k=>l=some k) w S w' S/\kb w' S/\(fq (rI .i64) T l cap (sortI xs)).p w' S:=by
 cases l with
 |none=>
  have D:xs=[]:=sW (by obtain⟨_,h4,_⟩:=h;exact h4.1)
  subst D
  exact(Any.slices_Sort_int_none (P:=P) (ρ:=ρ) L none 0 w).mono fun _ _ ⟨A,V⟩=>by subst V;exact⟨A,je.refl _ _ _,hs,by simpa [sortI] using h⟩
 |some b=>
  obtain⟨cells0,⟨cur,H,hle,hmax,hcs,hct⟩,hrc,hno0⟩:=h
  have hno:S b=none:=hno0 b rfl
  subst hct
  have A:(rI .i64).sz=1:=rfl
  rw [A,BR]at hcs hrc
  have hcells:=KU hrc
  have hH:Holds (Value.int .i64) w b 0 xs.toArray:=by
   intro j hj
   have hj' :j<xs.length:=by simpa using hj
   have hc:cur[j]? =some (Value.int .i64 xs.toArray[j]!):=by
    have:(cur.toList.take xs.length)[j]? =some (Value.int .i64 xs.toArray[j]!):=by
     rw [hcells,Ei,getElem!_pos xs.toArray j hj]
     simp [hj']
    rw [zk (by omega)]at this
    simpa using this
   refine⟨by simp [World.cell?,H,hc],?_⟩
   simp [World.frozen?,H]
  have hblk:=(wO.1 H).1
  have hcall:=calls_of_every_depth fun hx=>AnyS.slices_Sort_int_alone (P:=P) (ρ:=ρ) L hx b 0 cap xs w hH hblk (by omega)
  refine hcall.mono fun e w' ⟨he,n,os,hw⟩=>?_
  have hlen:=zx xs
  have hw2:w' =sortWorld (Value.int .i64) w b 0 n (sortI xs).toArray os:=hw
  subst hw2
  refine⟨he,⟨rfl,rfl,rfl,Nat.le_add_right _ _,?_,fun k hk hkb=>yA hk (fun e=>hkb (by rw [e])),SH.le_refl _,fun _ _ _=>rfl⟩,hs.same fun k o hk=>?_,⟨_,⟨_,Ga H,by omega,hmax,?_,rfl⟩,?_,hno0⟩⟩
  ·unfold sortWorld;rw [size_grow,size_putRow];exact Nat.le_add_right _ _
  ·have hkb:k≠b:=fun e=>by subst e;rw [hno]at hk;cases hk
   exact yA (hs.lt hk) hkb
  ·simp [putCells,A,hcs]
  ·have e1:(sortI xs).length*(rI .i64).sz=(sortI xs).toArray.size:=by rw [A];simp
   rw [e1,D4 (by simp;omega)]
   exact Lj (sortI xs)
section
def PP{ρ:Ren}(L:Lays.n189 E.P ρ){f:FuncId}(hf:ρ.f 189=f)(hc:aj E.P f=true){n:Nat}{xs ys:List Int}{x:Operand}(hy:Cg xs=some ys)(D:aC E.N G x (tV (Y l cap n)))(hn:n=xs.length)(hd:Nat.blt d E.N.n=true)(k:ys.length=n->RG E ops aF rest (fq (rI .i64) T l cap ys::O) ((d,rY)::G)):RG E ops aF (⟨some d,.call ⟨.value (.func f),#[x],ats⟩,ty,pos,after,none⟩::rest) (fq (rI .i64) T l cap xs::O) G:= .of rfl fun a w S st=>by
 obtain⟨hl0,rfl⟩:=Hh hy
 subst hf
 subst hn
 have A:a.eval x=Y l cap xs.length:=D S a st.facts
 have hr:(execOp a.eval ⟨some d,.call ⟨.value (.func (ρ.f 189)),#[x],ats⟩,ty,pos,after,none⟩).run E.P w= .ok (.enter (ρ.f 189) #[Y l cap xs.length]) w:=by
  have e0:a.eval (.func (ρ.f 189))= .func (.func (ρ.f 189)) #[] #[]:=rfl
  simp [execOp,resolve,e0,A,Deferred.ofValue,invoke,hZ hc]
 refine⟨fun c h=>(by cases h),?_⟩
 rw [hr]
 refine(Mk L hl0 st.sat st.own.1.1).mono fun e w' ⟨he,hext,hsat,hp⟩=>⟨_,he,?_⟩
 have hfp: ∀g∈O,∀b,g.fp b-> ¬(l=some b):=fun g hg b H hl=>st.own.2.1 g hg b hl H
 refine k (zx xs) _ _ S ⟨st.ext.step hext (fun c hc=>st.own.1.2 c hc),hsat,⟨⟨hp,st.own.1.2⟩,st.own.2.1,st.own.2.2.ext hext hfp⟩,?_⟩;exact(st.facts.mono hext.keep).put hd trivial
end
open Go.Lib

variable{W:World}
def ol(hle: ∀(b:Nat) (o:Obj),W.heap[b]? =some o-> ∃o',w.heap[b]? =some o' /\DO o o'){v:Value}(h:W.cell? ⟨b,i,none⟩=some v):w.cell? ⟨b,i,none⟩=some v:=by
 unfold World.cell? at h ⊢
 cases H:W.heap[b]? with
 |none=>simp [H]at h
 |some o=>
  obtain⟨o',A,V⟩:=hle b o H
  simp only [H]at h
  simp only [A]
  cases o with
  |cells c T fr=>
   obtain⟨l,rfl⟩:=V
   simp only [Option.isSome_none,j0,iB]at h ⊢
   rw [<-Ky]at h ⊢
   rw [xP (pG.1 h).1]
   exact h
  |_=>simp at h
def IK{g:Nat}{T:Array CaseRow}(hle: ∀(b:Nat) (o:Obj),W.heap[b]? =some o-> ∃o',w.heap[b]? =some o' /\DO o o')(h:CaseVar g T W):CaseVar g T w:=by
 obtain⟨R,oR,cap,A,V⟩:=h
 exact⟨R,oR,cap,ol hle A,fun i hi=>⟨ol hle (V i hi).1,ol hle (V i hi).2.1,ol hle (V i hi).2.2.1,ol hle (V i hi).2.2.2.1,ol hle (V i hi).2.2.2.2⟩⟩
def GG{g3 g4:Nat}(hle: ∀(b:Nat) (o:Obj),W.heap[b]? =some o-> ∃o',w.heap[b]? =some o' /\DO o o')(h:Utf8Tabs g3 g4 W):Utf8Tabs g3 g4 w:=
 ⟨fun c hc=>ol hle (h.1 c hc),fun i hi=>⟨ol hle (h.2 i hi).1,ol hle (h.2 i hi).2⟩⟩
end Go.Proofs.YthbdkceckjihgaaGreatDoor

