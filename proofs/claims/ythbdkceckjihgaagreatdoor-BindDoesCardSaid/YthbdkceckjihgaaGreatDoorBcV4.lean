/- dm of this claim: W64, W59, W61, W63, W67, W68, W58, W66, W71, W72, W73, W60, W44, W55, W29, W54. -/
import Derived.Test.YthbdkceckjihgaaGreatDoorBcV3
import Derived.Test.YthbdkceckjihgaaGreatDoorBcV2
import Derived.WideKeyRuns
import Derived.Shelf.GgSortFunc.Insertion
import Derived.Shelf.Slices.In.SortNone
import Derived.Test.YthbdkceckjihgaaGreatDoorBcV1
import Derived.Shelf.Unicode.CaseTo
import Derived.Shelf.Unicode.DecodeSlow
set_option linter.all false
namespace Go.Proofs.YthbdkceckjihgaaGreatDoor
open Go

variable{ah:Nat}{α:Type}{n:FuncId}{r:Rp α}{t:TypeId}
def yM{n:Nat}{r s:Option Ty}{t u:Ty}(h:(vR n ah r,s)=(some t,some u)):Nat.blt ah n=true/\r=some t/\s=some u:=
 ⟨(dz (xQ h).1).1,(dz (xQ h).1).2,(xQ h).2⟩
def WU(G:mM):Operand->Option Ty
 | .tmp k=>look G k
 | .const (.int k n)=>some (Z (rI k) n)
 | .const (.bool b)=>some (Z rB b)
 |_=>none
variable{G:mM}{N:Fr}{x:Nat}
def Nf{t:Ty}: ∀{x:Operand},WU G x=some t->bk N G x t
 | .tmp _,h=>M h
 | .const (.int _ _),h=>by cases h;exact hI
 | .const (.bool _),h=>by cases h;exact hB
variable{ts:List Ty}{xs:List α}
def da{N:Fr}{G:mM}: ∀{xs:List Operand} {ts:List Ty},xs.map (WU G)=ts.map some->kD N G xs ts
 |[],[],_=>trivial
 |_::_,_::_,h=>⟨Nf (Cr h).1,da (Cr h).2⟩

variable{hb:Type}{E:En}{O:List OE}{X:Type}{aC:Exit->Act->World->Prop}{T U:TypeId}{a:Nat}{after after2:Array Edge}{agg:Bool}{ats:Array TypeId}{b bytes c cap d2:Nat}{dst:Option Tmp}{e:TypeId}{ρ:Type}{f:X->hb->Option (ρ×X)}{fid:FuncId}{g:Option (Nat×Bool)}{β:Type}{get:α->β}{i id' :Nat}{j:IntKind}{k:Nat}{κ:Type}{l:Option Nat}{m:List (κ×β)}{off:Nat}{ops:Array Oper}{p:Nat}{pos pos2:String}{q:Rp β}{st:TypeId}{tl:List α}{ty ty2:TypeId}{v:Operand}{w:World}{xt:TypeId}{y:Code}{yt:TypeId}{z:List Value}{γ:β->Ty}
section
variable{l:List Oper}{op:Op}{t:Ty}
def d(h:cH E O G ⟨some ah,op,ty,pos,after,none⟩ t)(k:RG E ops aC l O ((ah,t)::G))(hd:Nat.blt ah E.N.n=true:=by exact rfl):
  RG E ops aC (⟨some ah,op,ty,pos,after,none⟩::l) O G:=Jr h hd k
def cM{x:α}{sz:Nat}(ti:TI E.P U sz bytes agg z)(hp:vR E.N.n ah (look G p)=some (bo r x))(k:RG E ops aC l O ((ah,Z r x)::G))(hs:(r.sz,r.agg)=(sz,agg):=by exact rfl):RG E ops aC (⟨some ah,.load U (.tmp p),ty,pos,after,none⟩::l) O G:=zo (dz hp).1 (nM ti (dz hp).2 hs) k
def oU{x:α}{sz:Nat}(hf:bO E.P T i=some (off,sz))(hq:jj r off q get)(hp:vR E.N.n ah (look G p)=some (bo r x))(k:RG E ops aC l O ((ah,bo q (get x))::G))(h0:(!(Nat.beq sz 0)&&Nat.ble (off+q.sz) r.sz)=true:=by exact rfl):
  RG E ops aC (⟨some ah,.fieldAddr T (.tmp p) i,ty,pos,after,none⟩::l) O G:=zo (dz hp).1 (kO hf hq (dz hp).2 h0) k
def aU{x:α}{sz s2:Nat}{p2:Nat}(hf:bO E.P T i=some (off,sz))(hq:jj r off q get)(ti:TI E.P U s2 bytes agg z)(hp:vR E.N.n ah (look G p)=some (bo r x))(k:RG E ops aC l O ((d2,Z q (get x))::(ah,bo q (get x))::G))(h0:(!(Nat.beq sz 0)&&Nat.ble (off+q.sz) r.sz)=true:=by exact rfl)(hp2:vR E.N.n d2 (look ((ah,bo q (get x))::G) p2)=some (bo q (get x)):=by exact rfl)(hs:(q.sz,q.agg)=(s2,agg):=by exact rfl):
  RG E ops aC (⟨some ah,.fieldAddr T (.tmp p) i,ty,pos,after,none⟩::⟨some d2,.load U (.tmp p2),ty2,pos2,after2,none⟩::l) O G:=oU hf hq hp (cM ti hp2 k hs) h0
def bu{sz o:Nat}(n:Nat)(hf:bO E.P T i=some (off,sz))(hp:vR E.N.n ah (look G p)=some (tV (an b o)))(k:RG E ops aC l O ((ah,tV (an b n))::G))(h0:Nat.beq sz 0=false:=by exact rfl)(he:o+off=n:=by exact rfl):RG E ops aC (⟨some ah,.fieldAddr T (.tmp p) i,ty,pos,after,none⟩::l) O G:=zo (dz hp).1 (lu n hf h0 (dz hp).2 he) k
def cU(D:vR E.N.n ah (look G x)=some (tT ts))(hi:ts[i]? =some t)(k:RG E ops aC l O ((ah,t)::G)):RG E ops aC (⟨some ah,.extract (.tmp x) i,ty,pos,after,none⟩::l) O G:=zo (dz D).1 (w9 hi (dz D).2) k
def bF{n:Int}(k:RG E ops aC l O ((ah,Z (rI j) n)::G))(hd:Nat.blt ah E.N.n=true:=by exact rfl):RG E ops aC (⟨some ah,.assign (.const (.int j n)),ty,pos,after,none⟩::l) O G:=zo hd zai k
def bC{b:Bool}(k:RG E ops aC l O ((ah,Z rB b)::G))(hd:Nat.blt ah E.N.n=true:=by exact rfl):RG E ops aC (⟨some ah,.assign (.const (.bool b)),ty,pos,after,none⟩::l) O G:=zo hd zab k
def bY(hu:E.P.underlying st=some (.slice e))(D:vR E.N.n ah (look G x)=some (Z (eM r) xs))(k:RG E ops aC l O ((ah,Z (rI .i64) (xs.length:Int))::G)):
  RG E ops aC (⟨some ah,.call ⟨.builtin .len,#[.tmp x],#[st]⟩,ty,pos,after,none⟩::l) O G:=zo (dz D).1 (zln hu (dz D).2) k
def cL{v:α}(D:vR E.N.n ah (look G x)=some (Z r v))(k:RG E ops aC l O ((ah,bo r v)::G)):RG E ops aC (⟨some ah,.box T (.tmp x),ty,pos,after,none⟩::l) O G:=zo (dz D).1 (zbx (dz D).2) k
def eZ{b q:Bool}(h:(vR E.N.n ah (look G c),look G x)=(some (Z rB b),some (qj b (Z rB q))))(k:RG E ops aC l O ((ah,Z rB (b&&q))::G)):
  RG E ops aC (⟨some ah,.pick (.tmp c) (.tmp x) (.const (.bool false)),ty,pos,after,none⟩::l) O G:=zo (yM h).1 (zpa (yM h).2.1 (yM h).2.2) k
def dU{b q:Bool}(h:(vR E.N.n ah (look G c),look G x)=(some (Z rB b),some (qj (!b) (Z rB q))))(k:RG E ops aC l O ((ah,Z rB (b||q))::G)):
  RG E ops aC (⟨some ah,.pick (.tmp c) (.const (.bool true)) (.tmp x),ty,pos,after,none⟩::l) O G:=zo (yM h).1 (zpo (yM h).2.1 (yM h).2.2) k
section
variable{y:Nat}{m n:Int}
def qq(h:(vR E.N.n ah (look G x),look G y)=(some (Z (rI j) m),some (Z (rI j) n)))(k:RG E ops aC l O ((ah,Z rB (decide (m<n)))::G)):
  RG E ops aC (⟨some ah,.binOp .lss xt (.tmp x) (.tmp y) yt,ty,pos,after,none⟩::l) O G:=zo (yM h).1 (zlt (yM h).2.1 (yM h).2.2) k
def dn(D:vR E.N.n ah (look G x)=some (Z (rI j) m))(k:RG E ops aC l O ((ah,Z rB (m==n))::G)):RG E ops aC (⟨some ah,.binOp .eql xt (.tmp x) (.const (.int j n)) yt,ty,pos,after,none⟩::l) O G:=zo (dz D).1 (zei (dz D).2) k
def ib(D:vR E.N.n ah (look G x)=some (Z (rI j) m))(k:RG E ops aC l O ((ah,Z rB (m !=n))::G)):RG E ops aC (⟨some ah,.binOp .neq xt (.tmp x) (.const (.int j n)) yt,ty,pos,after,none⟩::l) O G:=zo (dz D).1 (zni (dz D).2) k
def mX{c:Bool}(D:look G x=some (qj c (Z (rI j) m)))(hc:c=true):cH E O G ⟨dst,.binOp .eql xt (.tmp x) (.const (.int j n)) yt,ty,pos,after,g⟩ (Z rB (m==n)):=m6 (bE D hc) hI
def uI{c:Bool}(D:look G x=some (qj c (Z (rI j) m)))(hc:c=true):cH E O G ⟨dst,.binOp .neq xt (.tmp x) (.const (.int j n)) yt,ty,pos,after,g⟩ (Z rB (m !=n)):=du (bE D hc) hI
def dh{id:Nat}{z w:Code}(D:xs.drop i=[])(h:(vR E.N.n ah (look G a),look G b)=(some (Z (rI .i64) (i:Int)),some (Z (rI .i64) (xs.length:Int))))(k:AT E aC .normal O ((ah,Z rB (decide ((i:Int)<(xs.length:Int))))::G))(hc:look ((ah,Z rB (decide ((i:Int)<(xs.length:Int))))::G) c=some (Z rB (decide ((i:Int)<(xs.length:Int)))):=by exact rfl):
  LG E (Exit.inBlock id aC) (.seq (.region id' [⟨some ah,.binOp .lss xt (.tmp a) (.tmp b) yt,ty,pos,after,none⟩].toArray false) (.seq (.cond (.tmp c) z (.exit id)) w)) O G:=
 dw<|aV<|qq h<|bP<|aA<|qM (M hc) (TR D)<|ep<|aE (aE (cK k))
def dg{e:α}{z w:Code}(D:xs.drop i=e::tl)(h:(vR E.N.n ah (look G a),look G b)=(some (Z (rI .i64) (i:Int)),some (Z (rI .i64) (xs.length:Int))))(k:CG E (Exit.then (zK E.r E.P (.seq (.region id' [⟨some ah,.binOp .lss xt (.tmp a) (.tmp b) yt,ty,pos,after,none⟩].toArray false) (.seq (.cond (.tmp c) .skip z) w)) aC) aC) w O ((ah,Z rB (decide ((i:Int)<(xs.length:Int))))::G))(hc:look ((ah,Z rB (decide ((i:Int)<(xs.length:Int))))::G) c=some (Z rB (decide ((i:Int)<(xs.length:Int)))):=by exact rfl):
  LG E aC (.seq (.region id' [⟨some ah,.binOp .lss xt (.tmp a) (.tmp b) yt,ty,pos,after,none⟩].toArray false) (.seq (.cond (.tmp c) .skip z) w)) O G:=
 dw<|aV<|qq h<|bP<|aA<|qL (M hc) (Qo D)<|gp k
end
def uH{y:α}{ix:Nat}{i:Int}{sz:Nat}(hu:E.P.underlying st=some (.slice e))(ti:TI E.P e sz bytes agg z)(h:(vR E.N.n ah (look G x),look G ix)=(some (Z (eM r) xs),some (Z (rI j) i)))(hy:fz xs i=some y)(k:RG E ops aC l O ((ah,bo r y)::G))(hsz:r.sz=sz:=by exact rfl):
  RG E ops aC (⟨some ah,.indexAddr st (.tmp x) (.tmp ix),ty,pos,after,none⟩::l) O G:=zo (yM h).1 (uR hu ti hsz (yM h).2.1 (yM h).2.2 hy) k
def d9{y:α}{ix:Nat}{i:Int}{sz:Nat}{p2:Nat}(hu:E.P.underlying st=some (.slice e))(ti:TI E.P e sz bytes agg z)(h:(vR E.N.n ah (look G x),look G ix)=(some (Z (eM r) xs),some (Z (rI j) i)))(hy:fz xs i=some y)(k:RG E ops aC l O ((d2,Z r y)::(ah,bo r y)::G))(hsz:r.sz=sz:=by exact rfl)(hp2:vR E.N.n d2 (look ((ah,bo r y)::G) p2)=some (bo r y):=by exact rfl)(hs:(r.sz,r.agg)=(sz,agg):=by exact rfl):
  RG E ops aC (⟨some ah,.indexAddr st (.tmp x) (.tmp ix),ty,pos,after,none⟩::⟨some d2,.load e (.tmp p2),ty2,pos2,after2,none⟩::l) O G:=uH hu ti h hy (cM ti hp2 k hs) hsz
def bM{set:α->β->α}{x:α}{y:β}{sz:Nat}{v:Nat}{ty:TypeId}(ti:TI E.P U sz bytes agg z)(hset:eP r off q set)(h:(look G p,look G v)=(some (tV (an b off)),some (Z q y)))(k:RG E ops aC l (bx r T b (set x y)::O) G)(hsz:q.sz=sz:=by exact rfl)(hoff:Nat.ble (off+q.sz) r.sz=true:=by exact rfl):
  RG E ops aC (⟨none,.store U (.tmp p) (.tmp v),ty,pos,after,none⟩::l) (bx r T b x::O) G:=mt ti hsz hset hoff (M (xQ h).1) (M (xQ h).2) k
def Pc(n:Nat)(ops:Array Oper)(ah j:Nat)(G:mM):Option Ty:=((ops[j]?).bind (·.dst)).bind fun gs=>vR n gs (vR n ah (look G gs))
def F7{n ah j:Nat}{ops:Array Oper}{t:Ty}(h:Pc n ops ah j G=some t): ∃gs,(ops[j]?).bind (·.dst)=some gs/\vR n gs (vR n ah (look G gs))=some t:=by
 unfold Pc at h
 cases V:(ops[j]?).bind (·.dst)with
 |none=>rw [V]at h;cases h
 |some gs=>rw [V]at h;exact⟨gs,rfl,h⟩
def ax{j:Nat}{b:Bool}(V:Pc E.N.n ops ah j G=some (Z rB b))(h:b=true->cH E O G ⟨some ah,op,ty,pos,after,some (j,true)⟩ t)(k:RG E ops aC l O ((ah,qj b t)::G)):
  RG E ops aC (⟨some ah,op,ty,pos,after,some (j,true)⟩::l) O G:=by obtain⟨gs,H,J⟩:=F7 V;exact zgt H J h k
def ap{j:Nat}{b:Bool}(V:Pc E.N.n ops ah j G=some (Z rB b))(h:(!b)=true->cH E O G ⟨some ah,op,ty,pos,after,some (j,false)⟩ t)(k:RG E ops aC l O ((ah,qj (!b) t)::G)):
  RG E ops aC (⟨some ah,op,ty,pos,after,some (j,false)⟩::l) O G:=by obtain⟨gs,H,J⟩:=F7 V;exact zgf H J h k
section
variable{c:Bool}
def bN{x:α}{sz:Nat}(ti:TI E.P U sz bytes agg z)(hp:look G p=some (qj c (bo r x)))(hs:(r.sz,r.agg)=(sz,agg))(hc:c=true):
  cH E O G ⟨dst,.load U (.tmp p),ty,pos,after,g⟩ (Z r x):=eS ti (xQ hs).1 (xQ hs).2 (bE hp hc)
def bQ{x:α}{sz:Nat}(hf:bO E.P T i=some (off,sz))(hq:jj r off q get)(hp:look G p=some (bo r x))(h0:(!(Nat.beq sz 0)&&Nat.ble (off+q.sz) r.sz)=true)(_:c=true):cH E O G ⟨dst,.fieldAddr T (.tmp p) i,ty,pos,after,g⟩ (bo q (get x)):=kO hf hq hp h0
def de(D:look G x=some t)(_:c=true):cH E O G ⟨dst,.move (.tmp x),ty,pos,after,g⟩ t:=fR D
def rn(D:look G x=some (qj c t))(hc:c=true):cH E O G ⟨dst,.move (.tmp x),ty,pos,after,g⟩ t:=bB (bE D hc)
def gy(hu:E.P.underlying st=some (.slice e))(D:look G x=some (qj c (Z (eM r) xs)))(hc:c=true):
  cH E O G ⟨dst,.call ⟨.builtin .len,#[.tmp x],#[st]⟩,ty,pos,after,g⟩ (Z (rI .i64) (xs.length:Int)):=fO hu (bE D hc)
def rJ{b:Bool}(D:look G x=some (qj c (Z rB b)))(hc:c=true):cH E O G ⟨dst,.unOp .not xt (.tmp x),ty,pos,after,g⟩ (Z rB (!b)):=fD (bE D hc)
end
def bh(h:vR E.N.n ah (look G x)=some t)(k:CG E aC y O ((ah,t)::G)):RG E ops (Exit.then (y.wpIn (fw E.r) 0 E.P aC) aC) [⟨some ah,.assign (.tmp x),ty,pos,after,none⟩] O G:=gx h (bP k)
def cA(h:AT E aC .ret O G):RG E ops (Exit.then (Code.ret.wpIn (fw E.r) 0 E.P aC) aC) [] O G:=bP (yJ h)
def bj(h:vR E.N.n ah (look G x)=some t)(k:AT E aC .ret O ((ah,t)::G)):RG E ops (Exit.then (Code.ret.wpIn (fw E.r) 0 E.P aC) aC) [⟨some ah,.assign (.tmp x),ty,pos,after,none⟩] O G:=gx h (cA k)
def aR{id:Nat}{z:Code}(h:RG E l.toArray (Exit.then (y.wpIn (fw E.r) 0 E.P (Exit.then (z.wpIn (fw E.r) 0 E.P aC) aC)) (Exit.then (z.wpIn (fw E.r) 0 E.P aC) aC)) l O G):CG E aC (.seq (.seq (.region id l.toArray false) y) z) O G:=aA (aV h)
def aI{id:Nat}(h:vR E.N.n ah (look G x)=some t)(k:RG E ((⟨some ah,.move (.tmp x),ty,pos,after,none⟩::l).toArray) (Exit.then (y.wpIn (fw E.r) 0 E.P aC) aC) l O ((ah,t)::G)):
  CG E aC (.seq (.region id (⟨some ah,.move (.tmp x),ty,pos,after,none⟩::l).toArray false) y) O G:=aV (aY h k)
def eg{α β:Type _}{a:Option α}{f:α->Option β}{R:β}{xs:List Operand}{u:α->Ty}(h:a.bind f=some R)(hc:ak E.P fid=true)(hs: ∀{y},a=some y->cN E.P fid ts (u y))(D:kD E.N G xs ts)(k: ∀y,f y=some R->RG E ops aC l O ((ah,u y)::G))(hd:Nat.blt ah E.N.n=true:=by exact rfl):RG E ops aC (⟨some ah,.call ⟨.value (.func fid),xs.toArray,ats⟩,ty,pos,after,none⟩::l) O G:=
 cu h fun y hy h=>Jr (bq hc (hs hy) D) hd (k y h)
def F6{α β:Type _}{γ:Type}{a:Option α}{f:α->Option β}{R:β}{r:Rp γ}{zs:α->List γ}{xs:List Operand}(h:a.bind f=some R)(hc:ak E.P fid=true)(hs: ∀{y},a=some y->jB E.P fid ts false r T (zs y))(D:kD E.N G xs ts)(k: ∀y,f y=some R-> ∀b cap,RG E ops aC l (f6 r T b cap (zs y)::O) ((ah,tV (Y b cap (zs y).length))::G))(hd:Nat.blt ah E.N.n=true:=by exact rfl):
  RG E ops aC (⟨some ah,.call ⟨.value (.func fid),xs.toArray,ats⟩,ty,pos,after,none⟩::l) O G:=cu h fun y hy h=>Us hc (hs hy) D hd (k y h)
def cS{e:α}{id:Nat}(D:xs.drop i=e::tl)(hN:xs.length<=maxLen)(h:vR E.N.n ah (look G a)=some (Z (rI .i64) (i:Int)))(k:AT E aC .normal O ((d2,Z (rI .i64) ((i+1:Nat):Int))::(ah,Z (rI .i64) ((i+1:Nat):Int))::G))(J:vR E.N.n d2 (look ((ah,Z (rI .i64) ((i+1:Nat):Int))::G) b)=some (Z (rI .i64) ((i+1:Nat):Int)):=by exact rfl):
  AT E (Exit.inBlock id (Exit.then ((Code.region id' [⟨some ah,.binOp .add xt (.tmp a) (.const (.int .i64 1)) yt,ty,pos,after,none⟩,⟨some d2,.move (.tmp b),ty2,pos2,after2,none⟩].toArray false).wpIn (fw E.r) 0 E.P aC) aC)) .normal O G:=
 bn<|aq<|aL<|zo (dz h).1 (zin (Qp D hN) (dz h).2)<|aY J<|br k
def WS{e:α}{b2 d3 id:Nat}{ty3:TypeId}{pos3:String}{after3:Array Edge}(D:xs.drop i=e::tl)(hN:xs.length<=maxLen)(h:vR E.N.n ah (look G a)=some (Z (rI .i64) (i:Int)))(k:AT E aC .normal O ((d3,Z (rI .i64) ((i+1:Nat):Int))::(d2,Z (rI .i64) ((i+1:Nat):Int))::(ah,Z (rI .i64) (i:Int))::G))(H:vR E.N.n d2 (look ((ah,Z (rI .i64) (i:Int))::G) b)=some (Z (rI .i64) (i:Int)):=by exact rfl)(J:vR E.N.n d3 (look ((d2,Z (rI .i64) ((i+1:Nat):Int))::(ah,Z (rI .i64) (i:Int))::G) b2)=some (Z (rI .i64) ((i+1:Nat):Int)):=by exact rfl):
  AT E (Exit.inBlock id (Exit.then ((Code.region id' [⟨some ah,.move (.tmp a),ty,pos,after,none⟩,⟨some d2,.binOp .add xt (.tmp b) (.const (.int .i64 1)) yt,ty2,pos2,after2,none⟩,⟨some d3,.assign (.tmp b2),ty3,pos3,after3,none⟩].toArray false).wpIn (fw E.r) 0 E.P aC) aC)) .normal O G:=
 bn<|aq<|aL<|aY h<|zo (dz H).1 (zin (Qp D hN) (dz H).2)<|gx J<|br k
section
variable{e:α}{q1 q2 d3 d4 id:Nat}{ty3 ty4 u:TypeId}{pos3 pos4:String}{after3 after4:Array Edge}{z w:Code}
def WT(i:Nat)(r:Rp α)(xs:List α)(ah d2 d3 d4:Nat)(G:mM):mM:=(d4,Z rB (decide ((i:Int)<(xs.length:Int))))::(d3,Z (rI .i64) (xs.length:Int))::(d2,Z (eM r) xs)::(ah,Z (rI .i64) (i:Int))::G
def ZD(hu:E.P.underlying st=some (.slice u))(D:xs.drop i=[])(h:(vR E.N.n ah (look G a),vR E.N.n d2 (look ((ah,Z (rI .i64) (i:Int))::G) b))=(some (Z (rI .i64) (i:Int)),some (Z (eM r) xs)))
    (k:AT E aC .normal O ((d4,Z rB (decide ((i:Int)<(xs.length:Int))))::(d3,Z (rI .i64) (xs.length:Int))::(d2,Z (eM r) xs)::(ah,Z (rI .i64) (i:Int))::G))
    (A:(vR E.N.n d3 (look ((d2,Z (eM r) xs)::(ah,Z (rI .i64) (i:Int))::G) p),vR E.N.n d4 (look ((d3,Z (rI .i64) (xs.length:Int))::(d2,Z (eM r) xs)::(ah,Z (rI .i64) (i:Int))::G) q1),
      look ((d3,Z (rI .i64) (xs.length:Int))::(d2,Z (eM r) xs)::(ah,Z (rI .i64) (i:Int))::G) q2,look (WT i r xs ah d2 d3 d4 G) c)=(some (Z (eM r) xs),some (Z (rI .i64) (i:Int)),some (Z (rI .i64) (xs.length:Int)),some (Z rB (decide ((i:Int)<(xs.length:Int))))):=by exact rfl):
    LG E (Exit.inBlock id aC) (.seq (.seq (.region id' [⟨some ah,.move (.tmp a),ty,pos,after,none⟩,⟨some d2,.move (.tmp b),ty2,pos2,after2,none⟩,⟨some d3,.call ⟨.builtin .len,#[.tmp p],#[st]⟩,ty3,pos3,after3,none⟩,⟨some d4,.binOp .lss xt (.tmp q1) (.tmp q2) yt,ty4,pos4,after4,none⟩].toArray false) (.cond (.tmp c) z (.exit id))) w) O G:=
  have h' :=xQ h;have e1:=xQ A;have e2:=xQ e1.2;have e3:=xQ e2.2
  dw<|aA<|aV<|aY h'.1<|aY h'.2<|bY hu e1.1<|zo (dz e2.1).1 (zlt (dz e2.1).2 e3.1)<|bP<|qM (M e3.2) (TR D)<|ep<|aE (aE (cK k))
def ZC(hu:E.P.underlying st=some (.slice u))(D:xs.drop i=e::tl)(h:(vR E.N.n ah (look G a),vR E.N.n d2 (look ((ah,Z (rI .i64) (i:Int))::G) b))=(some (Z (rI .i64) (i:Int)),some (Z (eM r) xs)))
    (k:CG E (Exit.then (zK E.r E.P (.seq (.seq (.region id' [⟨some ah,.move (.tmp a),ty,pos,after,none⟩,⟨some d2,.move (.tmp b),ty2,pos2,after2,none⟩,⟨some d3,.call ⟨.builtin .len,#[.tmp p],#[st]⟩,ty3,pos3,after3,none⟩,⟨some d4,.binOp .lss xt (.tmp q1) (.tmp q2) yt,ty4,pos4,after4,none⟩].toArray false) (.cond (.tmp c) .skip z)) w) aC) aC) w O
      ((d4,Z rB (decide ((i:Int)<(xs.length:Int))))::(d3,Z (rI .i64) (xs.length:Int))::(d2,Z (eM r) xs)::(ah,Z (rI .i64) (i:Int))::G))
    (A:(vR E.N.n d3 (look ((d2,Z (eM r) xs)::(ah,Z (rI .i64) (i:Int))::G) p),vR E.N.n d4 (look ((d3,Z (rI .i64) (xs.length:Int))::(d2,Z (eM r) xs)::(ah,Z (rI .i64) (i:Int))::G) q1),
      look ((d3,Z (rI .i64) (xs.length:Int))::(d2,Z (eM r) xs)::(ah,Z (rI .i64) (i:Int))::G) q2,look (WT i r xs ah d2 d3 d4 G) c)=(some (Z (eM r) xs),some (Z (rI .i64) (i:Int)),some (Z (rI .i64) (xs.length:Int)),some (Z rB (decide ((i:Int)<(xs.length:Int))))):=by exact rfl):
    LG E aC (.seq (.seq (.region id' [⟨some ah,.move (.tmp a),ty,pos,after,none⟩,⟨some d2,.move (.tmp b),ty2,pos2,after2,none⟩,⟨some d3,.call ⟨.builtin .len,#[.tmp p],#[st]⟩,ty3,pos3,after3,none⟩,⟨some d4,.binOp .lss xt (.tmp q1) (.tmp q2) yt,ty4,pos4,after4,none⟩].toArray false) (.cond (.tmp c) .skip z)) w) O G:=
  have h' :=xQ h;have e1:=xQ A;have e2:=xQ e1.2;have e3:=xQ e2.2
  dw<|aA<|aV<|aY h'.1<|aY h'.2<|bY hu e1.1<|zo (dz e2.1).1 (zlt (dz e2.1).2 e3.1)<|bP<|qL (M e3.2) (Qo D)<|gp k
end
end
variable{P:Program}
section
variable{l:List Oper}
def xp(r:Rp α)(k:RG E ops aC l O ((ah,Z (eM r) [])::G))(hd:Nat.blt ah E.N.n=true:=by exact rfl):RG E ops aC (⟨some ah,.assign (.const (.slice none 0 0)),ty,pos,after,none⟩::l) O G:=zo hd (cg RH) k
def bX{β:Type _}{X aa:Option β}{r:β}{x:Code}{b:Bool}(h:(if b=true then X else aa)=some r)(A:look G c=some (Z rB b))(D:X=some r->CG E aC x O G)(hy:aa=some r->CG E aC y O G):
  RG E ops (Exit.then ((Code.cond (.tmp c) x y).wpIn (fw E.r) 0 E.P aC) aC) [] O G:=bP (lO h A D hy)
def bT{id:Nat}{aw:Act->World->Prop}(h:AT E aC .ret O G):AT E (Exit.inBlock id (Exit.then aw aC)) .ret O G:=xO (af h)
def dG{n:Int}(k:AT E aC .ret O ((ah,Z (rI j) n)::G))(hd:Nat.blt ah E.N.n=true:=by exact rfl):RG E ops (Exit.then (Code.ret.wpIn (fw E.r) 0 E.P aC) aC) [⟨some ah,.assign (.const (.int j n)),ty,pos,after,none⟩] O G:=zo hd zai (cA k)
def dp{f:FuncId}{fn:Func}{c:Code}{t:Ty}{N:Nat}(hf:P.funcs[f]? =some fn)(A:(fn.body,fn.ntmps,Nat.ble ts.length fn.ntmps)=(some c,N,true))(h: ∀{w0 S0},CG ⟨P,⟨N,[]⟩,wC,w0,S0,none⟩ (bodyPost P fn (Oo ⟨P,⟨N,[]⟩,wC,w0,S0,none⟩ t)) c [] (Bk 0 ts)):cN P f ts t:=by
 obtain⟨H,J⟩:=xQ A
 obtain⟨J,h3⟩:=xQ J
 subst J
 exact cN.of hf H rfl h3 fun _ _=>h
section
def ZE{G:mM}{t:Ty}:look ((k,t)::G) k=some t:=by simp [look]
def fv{u:Ty}(h:ts[i]? =some u)(hu:look G x=some u)(A:([(⟨x,u,none⟩:Nd)].all (q0 l ⟨dst,.move (.tmp x),ty,pos,after,g⟩ i)&&ft i ⟨dst,.move (.tmp x),ty,pos,after,g⟩&&g.isNone)=true:=by exact rfl):
  ∃(needs:List Nd) (t:Ty),ts[i]? =some t/\uL G ts needs/\(needs.all (q0 l ⟨dst,.move (.tmp x),ty,pos,after,g⟩ i))=true/\ft i ⟨dst,.move (.tmp x),ty,pos,after,g⟩=true/\bg E O l.toArray (kG needs) ⟨dst,.move (.tmp x),ty,pos,after,g⟩ t:=
 qN x h hu (fR ZE) A
def fA{v:α}{sz:Nat}(j:Nat)(ti:TI E.P U sz bytes agg z)(h:ts[i]? =some (Z r v))(hu:ts[j]? =some (bo r v))(hs:(r.sz,r.agg)=(sz,agg):=by exact rfl)(A:([(⟨x,bo r v,some j⟩:Nd)].all (q0 l ⟨dst,.load U (.tmp x),ty,pos,after,g⟩ i)&&ft i ⟨dst,.load U (.tmp x),ty,pos,after,g⟩&&g.isNone)=true:=by exact rfl):
  ∃(needs:List Nd) (t:Ty),ts[i]? =some t/\uL G ts needs/\(needs.all (q0 l ⟨dst,.load U (.tmp x),ty,pos,after,g⟩ i))=true/\ft i ⟨dst,.load U (.tmp x),ty,pos,after,g⟩=true/\bg E O l.toArray (kG needs) ⟨dst,.load U (.tmp x),ty,pos,after,g⟩ t:=
 fL x j h hu (nM ti ZE hs) A
end
end

structure Sc{κ:Type} [DecidableEq κ](P:Program)(kt:TypeId)(kv:κ->Value):Prop where
 chk: ∀e w k,(Instr.checkKey e 10000 kt (kv k)).run P w= .ok () w
 eql: ∀w a b,(Op.equal kt (kv a) (kv b)).run P w= .ok (decide (a=b)) w
 wide:(match P.underlying kt with|some (.array _ _)|some (.struct _)=>true|_=>false)=true
 same: ∀k,Instr.sameBits 10000 (kv k) (kv k)=true
 inj: ∀a b,kv a=kv b->a=b
def Vc(p:Int×Int):Value:= .agg #[.int .i64 p.1,.int .i64 p.2]
def k2(l:List Int):Int×Int:=(l.getD 0 0,l.getD 1 0)
variable{kt:TypeId}
def aab{kt el sz:Nat}(h:P.underlying kt=some (.array 2 el))(he:P.underlying el=some (.int .i64))(ti:TI P el sz bytes agg z)(hsz:Nat.beq sz 1=true)(hq:FM P kt (qD (rI .i64) 2)):Sc P kt Vc where
 chk:=fun e w k=>by
  obtain⟨i,zv,hi,hs,_⟩:=ti.get
  have H:sz=1:=qZ hsz
  have ha:(isAgg el).run P w= .ok false w:=by
   simp [isAgg,jZ he,Result.andThen]
  have h3: ∀(j:Nat) (x:Int) (cs:Array Value),cs[j]? =some (.int .i64 x)->(part el cs (j*i.size)).run P w= .ok (.int .i64 x) w:=fun j x cs hj=>by
   simp [part,ha,Result.andThen,hs,H,hj]
  have h4: ∀x:Int,(Instr.checkKey e 9999 el (.int .i64 x)).run P w= .ok () w:=fun x=>by
   show(Instr.checkKey e (9998+1) el (.int .i64 x)).run P w= .ok () w
   unfold Instr.checkKey
   simp only [sA,jZ he,tJ]
   rfl
  have e1:=h3 0 k.1 #[.int .i64 k.1,.int .i64 k.2] rfl
  have e2:=h3 1 k.2 #[.int .i64 k.1,.int .i64 k.2] rfl
  show(Instr.checkKey e (9999+1) kt (Vc k)).run P w= .ok () w
  unfold Instr.checkKey
  simp only [Vc,sA,jZ h,tJ,Std.Legacy.Range.forIn_eq_forIn_range',Std.Legacy.Range.size,Nat.sub_zero,Nat.add_sub_cancel,Nat.div_one,List.range'_succ,List.range'_zero,List.forIn_cons,List.forIn_nil,sizeOf,typeInfo,hi,ED,Nat.zero_mul,sE,Nat.one_mul]
  simp only [Nat.zero_mul,Nat.one_mul]at e1 e2
  simp [e1,e2,h4,Result.andThen,hi]
 eql:=fun w a b=>by
  have:=hq.run (fun _=>none) [.int .i64 a.1,.int .i64 a.2] [.int .i64 b.1,.int .i64 b.2] [a.1,a.2] [b.1,b.2] 9980 w ⟨rfl,[_],[_],rfl,rfl,[_],[],rfl,rfl,rfl⟩ ⟨rfl,[_],[_],rfl,rfl,[_],[],rfl,rfl,rfl⟩
  have e1:decide (([a.1,a.2]:List Int)=[b.1,b.2])=decide (a=b):=by
   obtain⟨a1,a2⟩:=a;obtain⟨b1,b2⟩:=b;simp
  rw [e1]at this
  show(Op.equalIn (9980+20) kt (Vc a) (Vc b)).run P w=_
  exact this
 wide:=by rw [h]
 same:=fun k=>by
  show Instr.sameBits (9999+1) (Vc k) (Vc k)=true
  unfold Instr.sameBits Vc
  simp only [List.zip_cons_cons,List.zip_nil_left,tI,List.all_nil]
  unfold Instr.sameBits
  simp
 inj:=fun a b h=>by
  obtain⟨a1,a2⟩:=a;obtain⟨b1,b2⟩:=b
  simpa [Vc] using h
variable{S:SH}{kv:κ->Value}
section
variable [DecidableEq κ]{k:κ}
def N7{w:World}{S:SH}{k:κ}(hk:Sc P kt kv): ∀{es:List MapEntry} {m:List (κ×β)} (i:Nat),wR γ kv S es m->
  ∃u,(Instr.findAsking kt (kv k) es i).run P w= .ok u w/\((u=none/\(∀x∈es,x.key≠kv k)/\ie m k=none)\/ ∃(j:Nat) (e:MapEntry) (y:β),u=some (i+j,e.val)/\es[j]? =some e/\e.key=kv k/\ie m k=some y/\(γ y).p S e.val)
 |[],[],i,_=>⟨none,by simp [Instr.findAsking],.inl ⟨rfl,fun x D=>(by cases D),rfl⟩⟩
 |e::es,q::m,i,⟨H,J,h3,h4⟩=>by
  by_cases hq:k=q.1
  ·subst hq
   refine⟨some (i,e.val),?_,.inr ⟨0,e,q.2,rfl,rfl,H,by unfold ie;rw [cx rfl],J⟩⟩
   unfold Instr.findAsking
   simp [H,hk.eql,Result.andThen]
  ·obtain⟨u,g1,g2⟩:=N7 hk (k:=k) (w:=w) (i+1) h4
   refine⟨u,?_,?_⟩
   ·unfold Instr.findAsking
    simp [H,hk.eql,hq,Result.andThen,g1]
   ·have hm:ie (q::m) k=ie m k:=by conv=>lhs;unfold ie;rw [cm (fun e=>hq e.symm)]
    rw [hm]
    rcases g2 with⟨e1,e2,e3⟩|⟨j,e',y,e1,e2,e3,e4,e5⟩
    ·refine .inl ⟨e1,fun x D=>?_,e3⟩
     rcases gn.1 D with rfl|D
     ·rw [H];exact fun e=>hq (hk.inj _ _ e).symm
     ·exact e2 x D
    ·exact .inr ⟨j+1,e',y,by rw [e1];congr 2;omega,by simpa using e2,e3,e4,e5⟩
def PG{q k:κ}{y:β}(hk:q≠k): ∀(m:List (κ×β)),(∀p∈m,p.1≠q)-> ∀p∈kh m k y,p.1≠q:=by
 intro m
 induction m with
 |nil=>intro _ p hp;rw [Bx.1 hp];exact fun e=>hk e.symm
 |cons p0 m ih=>
  intro hm p hp
  unfold kh at hp
  split at hp
  ·rcases gn.1 hp with rfl|hp
   ·exact fun e=>hk e.symm
   ·exact hm p (oO _ hp)
  ·rcases gn.1 hp with rfl|hp
   ·exact hm _ (oh ..)
   ·exact ih (fun p hp=>hm p (oO _ hp)) p hp
def Ho(hinj: ∀a b,kv a=kv b->a=b){y:β}{v:Value}{born:Nat}(hv:(γ y).p S v): ∀{es:List MapEntry} {m:List (κ×β)},wR γ kv S es m->(∀x∈es,x.key≠kv k)->wR γ kv S (es++[⟨kv k,v,born⟩]) (kh m k y)
 |[],[],_,_=>⟨rfl,hv,fun _ h=>(by cases h),trivial⟩
 |e::es,q::m,⟨H,J,h3,h4⟩,hn=>by
  have hq:q.1≠k:=fun e' =>hn e (oh ..) (by rw [H,e'])
  have hm:kh (q::m) k y=q::kh m k y:=by conv=>lhs;unfold kh;rw [cm hq]
  rw [hm]
  exact⟨H,J,PG hq m h3,Ho hinj hv h4 fun x D=>hn x (oO _ D)⟩
def Jk(hinj: ∀a b,kv a=kv b->a=b){y:β}{v:Value}(hv:(γ y).p S v): ∀{es:List MapEntry} {m:List (κ×β)},wR γ kv S es m-> ∀j e,es[j]? =some e->e.key=kv k->wR γ kv S (es.modify j fun e=>{e with key:=kv k,val:=v}) (kh m k y)
 |[],[],_,j,e,he,_=>by cases he
 |e0::es,q::m,⟨H,J,h3,h4⟩,j,e,he,hek=>by
  cases j with
  |zero=>
   have he' :e0=e:=rC he
   subst he'
   have hq:q.1=k:=hinj _ _ (by rw [<-H,hek])
   have hm:kh (q::m) k y=(k,y)::m:=by conv=>lhs;unfold kh;rw [cx hq]
   rw [hm,List.modify_zero_cons]
   exact⟨rfl,hv,fun p hp=>by rw [<-hq];exact h3 p hp,h4⟩
  |succ j=>
   have he' :es[j]? =some e:=by simpa using he
   obtain⟨y',hy'⟩: ∃q' ∈m,q'.1=k:=by
    have hmem: ∀{es:List MapEntry} {m:List (κ×β)},wR γ kv S es m-> ∀(j:Nat) (e:MapEntry),es[j]? =some e->e.key=kv k-> ∃q' ∈m,q'.1=k:=by
     intro es
     induction es with
     |nil=>intro m _ j e he _;simp at he
     |cons e1 es ih=>
      intro m hm j e he hek
      cases m with
      |nil=>exact hm.elim
      |cons q1 m=>
       obtain⟨g1,_,_,g4⟩:=hm
       cases j with
       |zero=>
        have e2:e1=e:=rC he
        subst e2
        exact⟨q1,oh ..,hinj _ _ (by rw [<-g1,hek])⟩
       |succ j=>
        obtain⟨q',a1,a2⟩:=ih g4 j e (by simpa using he) hek
        exact⟨q',oO _ a1,a2⟩
    exact hmem h4 j e he' hek
   have hq:q.1≠k:=fun e' =>h3 y' hy'.1 (by rw [hy'.2,e'])
   have hm:kh (q::m) k y=q::kh m k y:=by conv=>lhs;unfold kh;rw [cm hq]
   rw [hm,EO]
   exact⟨H,J,PG hq m h3,Jk hinj hv h4 j e he' hek⟩
def eO(γ:β->Ty)(kv:κ->Value)(b:Nat)(m:List (κ×β)):OE where
 fp:=fun j=>j=b
 p:=fun w S=>S b=none/\ ∃es clock,w.heap[b]? =some (.map es clock)/\wR γ kv S es.toList m
 here:=by
  intro w S ⟨_,es,clock,h3,_⟩ j hj
  subst hj
  exact(BA.1 h3).1
 kept:=by
  intro C w w' S S' ⟨H,es,clock,h3,h4⟩ k hC
  have hlt:=(BA.1 h3).1
  exact⟨by rw [k.old b hlt (hC b rfl)];exact H,es,clock,by rw [k.heap b hlt (hC b rfl)];exact h3,yv k.keep h4⟩
end
variable{et:TypeId}{rest:List Oper}
section
variable [DecidableEq κ]{k:κ}{x i:Operand}{dst:Option Nat}
def MF(γ:β->Ty)(kv:κ->Value)(hd:Nat.blt ah E.N.n=true)(k: ∀b,RG E ops aC rest (eO γ kv b []::O) ((ah,tV (aH b))::G)):
  RG E ops aC (⟨some ah,.makeMap t none,ty,pos,after,none⟩::rest) O G:= .of rfl fun a w S st=>by
 obtain⟨he,hs',hno⟩:=lF (w:=w) (.map #[] 0) st.sat
 have hrun:(execOp a.eval ⟨some ah,.makeMap t none,ty,pos,after,none⟩).run E.P w= .ok (.value (aH w.heap.size)) (w.alloc (.map #[] 0)):=by
  simp [execOp,Instr.makeMap,aH]
 refine⟨fun c h=>(by cases h),?_⟩
 rw [hrun]
 exact k w.heap.size _ _ S ⟨st.ext.step0 he,hs',u7 st.own he ⟨hno,#[],0,A1 w _,trivial⟩ (fun b A=>EA A.symm) st.base_le,st.facts.put hd rfl⟩
def WM{y:β}(hm:E.P.underlying t=some (.map kt et))(hk:Sc E.P kt kv)(D:bk E.N G x (tV (aH b)))(hi:yY E.N G i (kv k))(hv:bk E.N G v (γ y))
  (h:RG E ops aC rest (eO γ kv b (kh m k y)::O) G):RG E ops aC (⟨none,.mapUpdate t x i v,ty,pos,after,none⟩::rest) (eO γ kv b m::O) G:= .of rfl fun a w S st=>by
 have H:a.eval x=aH b:=D S a st.facts
 have J:a.eval i=kv k:=hi S a st.facts
 have h3:(γ y).p S (a.eval v):=hv S a st.facts
 obtain⟨⟨hno,es,clock,h5,h6⟩,_⟩:=st.own.1
 have hlt:=(BA.1 h5).1
 obtain⟨u,g1,g2⟩:=N7 hk (k:=k) (w:=w) 0 h6
 have hfk:(Instr.findKey kt (kv k) es.toList).run E.P w= .ok u w:=by rw [run_findKey_eq w hk.wide];exact g1
 obtain⟨X,hrun,hX⟩: ∃X:Obj,(Instr.mapUpdate t (aH b) (kv k) (a.eval v)).run E.P w= .ok () {w with heap:=w.heap.setIfInBounds b X}/\ ∃es' cl',X= .map es' cl' /\wR γ kv S es'.toList (kh m k y):=by
  rcases g2 with⟨rfl,g3,g4⟩|⟨j,e,y',rfl,g3,g4,_,_⟩
  ·refine⟨.map (es.push ⟨kv k,a.eval v,clock⟩) (clock+1),?_,_,_,rfl,by rw [Array.toList_push];exact Ho hk.inj h3 h6 g3⟩
   simp [Instr.mapUpdate,aH,jZ hm,KN h5,hk.chk,hfk,Result.andThen,O6 _ h5]
  ·refine⟨.map (es.modify j fun e=>{e with key:=kv k,val:=a.eval v}) clock,?_,_,_,rfl,by rw [Array.toList_modify];exact Jk hk.inj h3 h6 j e g3 g4⟩
   have hgd:((es[j]?).map (·.key)).getD (kv k)=kv k:=by
    rw [<-O3,g3];exact g4
   simp only [sE]at hfk
   simp [Instr.mapUpdate,aH,jZ hm,KN h5,hk.chk,hfk,Result.andThen,hgd,Instr.keyThatStays,hk.same,O6 _ h5]
 have hrun' :(execOp a.eval ⟨none,.mapUpdate t x i v,ty,pos,after,none⟩).run E.P w= .ok .skip {w with heap:=w.heap.setIfInBounds b X}:=by simp [execOp,H,J,hrun]
 obtain⟨es',cl',rfl,h7⟩:=hX
 refine⟨fun c h=>(by cases h),?_⟩
 rw [hrun']
 obtain⟨q1,q2⟩:=MapKept.heap_set (o' := .map es' cl') h5
 obtain⟨f1,f2,f3⟩:=nk (O:=O) st.sat (w' :={w with heap:=w.heap.setIfInBounds b (.map es' cl')}) (eO γ kv b m) (eO γ kv b (kh m k y)) st.own (fun _=>vz) (fun _=>vz) ⟨rfl,rfl,rfl,by simp,f7 _⟩ (fun j hj=>q2 j hj) ⟨hno,es',cl',q1,h7⟩ hno
 exact h _ _ S ⟨st.ext.step f1 (fun c hc=>st.own.1.2 c hc),f2,f3,st.facts⟩
end

section
variable [DecidableEq κ]{k:κ}{x i:Operand}{dst:Option Nat}
end
variable{os:Array Obj}
section
variable [DecidableEq κ]{hg:MV β}{os:List (Option Nat×Nat)}{h:Option κ}{x:Operand}{dst:Option Nat}
end
section
variable{e:Exit}
end


structure RM{α β:Type}(aw:Nat)(F:Rp α->Rp β):Prop where
 sz: ∀r r',r.sz=aw->r'.sz=aw->(F r).sz=(F r').sz
 mono: ∀r r',r.sz=aw->r'.sz=aw->(∀S cs x,r.rc S cs x->r'.rc S cs x)-> ∀S cs x,(F r).rc S cs x->(F r').rc S cs x
 cont: ∀(R:Nat->Rp α),(∀n,(R n).sz=aw)->(∀n S cs x,(R n).rc S cs x->(R (n+1)).rc S cs x)-> ∀r,r.sz=aw->(∀S cs x,r.rc S cs x-> ∃n,(R n).rc S cs x)-> ∀S cs x,(F r).rc S cs x-> ∃n,∀m,n<=m->(F (R m)).rc S cs x
def RM.map{γ:Type}{aw:Nat}{F:Rp α->Rp β}(f:γ->β)(h:RM aw F):RM aw (fun r=>kg (F r) f):=
 ⟨fun r r' H J=>h.sz r r' H J,fun r r' H J h3 S cs x q=>h.mono r r' H J h3 S cs (f x) q,fun R hR up r hr h3 S cs x q=>h.cont R hR up r hr h3 S cs (f x) q⟩

section
variable{c:Code}{e:Exit}
end

variable{ys:List α}
section
def Pu{q:Rp α}(hq:q.sz=1){cs:List Value}{m:Nat}(h:ul q S cs xs)(hm:m<=xs.length):ul q S (cs.take m) (xs.take m)/\ul q S (cs.drop m) (xs.drop m):=by
 have:=rq (xs:=xs.take m) (ys:=xs.drop m) (by rw [uN];exact h)
 rwa [Bw,Co hm,hq,FS]at this
def wT{α:Type}(xs ys:List α):List α:=ys.take xs.length++xs.drop (min ys.length xs.length)
def yy:(wT xs ys).length=xs.length:=by
 unfold wT
 simp
 omega
end
variable{mm:Bool}
section
variable{c:Code}
def QT{lo hi:Int}(hs:dJ xs lo hi=some ys)(h:AY mm r U l cap xs w S)(hS:mU w S): ∃S1,mU w S1/\(Z (eM r) ys).p S1 (pf r.sz l cap lo.toNat ys.length):=by
 obtain⟨S1,_,k2,hd⟩:=ab4 h hS
 refine⟨S1,k2,?_⟩
 obtain⟨l',m,rfl,rfl,h7,h8,rfl⟩:=gI hs
 obtain⟨ad,c,H,J,h3,h4⟩:=m4.1 hd
 have hlen:((xs.take m).drop l').length=m-l' :=by simp;omega
 cases l with
 |none=>
  obtain⟨cells,g1,_⟩:=h
  have D:xs=[]:=y9 g1.1
  subst D
  have e:((([]:List α).take m).drop l')=[]:=by simp
  rw [e]
  exact Cz
 |some b=>
  have e1:Value.slice (some ⟨b,0,none⟩) xs.length cap= .slice ad xs.length c:=H
  injection e1 with e2 _ e3
  subst e2
  subst e3
  have h5:=BI h4 h7 h8 J
  refine m4.2 ⟨_,cap-l',?_,by omega,by omega,h5⟩
  unfold pf
  simp only [Cu,hlen,Is,jA,sE]
  split<;>rfl
def UT{sz:Nat}(ti:TI P T sz bytes agg z):(P.info? T).map (·.size)=some sz:=by
 obtain⟨i,_,hi,hs,_⟩:=ti.get
 simp [hi,hs]
def Ri{α:Type}:Rp α where
 sz:=1
 agg:=false
 rc:=fun _ cs _=> ∃v,cs=[v]/\v.oneCell' =true
 mono:=fun _ h=>h
 len:=fun⟨v,h,_⟩=>by rw [h];rfl
 one:=fun⟨v,h,k⟩ c hc=>by rw [h]at hc;simp at hc;subst hc;exact k
 sc:=fun _=>rfl
def Kx{l:List α}{e:α}(h:xs.drop i=e::l):(i:Int)<(xs.length:Int):=by
 have:=congrArg List.length h
 simp at this
 omega
def tv{n:Nat}{x ix:Operand}{y:α}{k:IntKind}{i:Int}{sz:Nat}(M:E.P.underlying t=some (.slice e))(ti:TI E.P e sz bytes agg z)(hm:mh mm r U l cap xs∈O)(D:bk E.N G x (tV (Y l cap n)))(hi:bk E.N G ix (Z (rI k) i))(hy:fz xs i=some y)(hlt:i<(n:Int)):
  cH E O G ⟨dst,.indexAddr t x ix,ty,pos,after,g⟩ (tV (dO l (i.toNat*sz+0))):=
 .of_pure fun a w S _ ho hf=>by
  have H:a.eval x=Y l cap n:=D S a hf
  have h3:a.eval ix= .int k i:=f8.1 (hi S a hf)
  obtain⟨h0,hy'⟩:=kx hy
  obtain⟨b,cur,rfl,_⟩:=r0 (ho.mem _ hm).1 hy'
  refine⟨_,?_,rfl⟩
  have hc:0<=i/\i<(n:Int):=⟨h0,hlt⟩
  simp [execOp,H,h3,Y,Instr.indexAt,asIntOf,jZ M,hc,ti.sizeOf,jA,dO,an]
end

def Hu{zs:List α}(h:wT xs ys=zs):zs.length=xs.length:=by rw [<-h,yy]

def lc(p:cX×cX):Value:= .agg #[ew p.1,ew p.2]
def ab5{kt el sz:Nat}{l:Array Field} [DecidableEq α]{mk:cX×cX->α}(h:P.underlying kt=some (.struct l))(hl:l.toList.map (fun f=>(f.type,f.offset))=[(el,0),(el,1)])(he:P.underlying el=some .string)(ti:TI P el sz bytes agg z)(hsz:Nat.beq sz 1=true)(hag:r.agg=true)(hr: ∀p:cX×cX,r.rc (fun _=>none) [ew p.1,ew p.2] (mk p))(hinj: ∀p q,mk p=mk q->p=q)(hq:FM P kt r):Sc P kt lc where
 chk:=fun e w k=>by
  obtain⟨i,zv,hi,hs,_⟩:=ti.get
  have H:sz=1:=qZ hsz
  have ha:(isAgg el).run P w= .ok false w:=by
   simp [isAgg,jZ he,Result.andThen]
  have h3: ∀(j:Nat) (x:cX) (cs:Array Value),cs[j]? =some (ew x)->(part el cs j).run P w= .ok (ew x) w:=fun j x cs hj=>by
   simp [part,ha,Result.andThen,hj]
  have h4: ∀x:cX,(Instr.checkKey e 9999 el (ew x)).run P w= .ok () w:=fun x=>by
   show(Instr.checkKey e (9998+1) el (ew x)).run P w= .ok () w
   unfold Instr.checkKey
   simp only [sA,jZ he,tJ]
   rfl
  have e1:=h3 0 k.1 #[ew k.1,ew k.2] rfl
  have e2:=h3 1 k.2 #[ew k.1,ew k.2] rfl
  obtain⟨l0,rfl⟩: ∃l0:List Field,l=l0.toArray:=⟨l.toList,by simp⟩
  have hlen:l0.length=2:=by simpa using congrArg List.length hl
  obtain⟨f0,f1,rfl⟩: ∃f0 f1,l0=[f0,f1]:=by
   match l0,hlen with
   |[a,b],_=>exact⟨a,b,rfl⟩
  simp only [uM,EB,List.cons.injEq,Prod.mk.injEq,and_true]at hl
  obtain⟨⟨a0,b0⟩,⟨a1,b1⟩⟩:=hl
  show(Instr.checkKey e (9999+1) kt (lc k)).run P w= .ok () w
  unfold Instr.checkKey
  simp only [lc,sA,jZ h,tJ]
  by_cases n0:f0.name= "_" <;>by_cases n1:f1.name= "_" <;>simp [n0,n1,a0,a1,b0,b1,e1,e2,h4,Result.andThen]
 eql:=fun w a b=>by
  have:=hq.run (fun _=>none) _ _ _ _ 9980 w (hr a) (hr b)
  have e1:decide (mk a=mk b)=decide (a=b):=AR.2 ⟨fun e=>hinj a b e,fun e=>by rw [e]⟩
  rw [e1]at this
  have hv: ∀p:cX×cX,r.val [ew p.1,ew p.2]=lc p:=fun p=>by simp [Rp.val,hag,lc]
  rw [hv,hv]at this
  show(Op.equalIn (9980+20) kt (lc a) (lc b)).run P w=_
  exact this
 wide:=by rw [h]
 same:=fun k=>by
  show Instr.sameBits (9999+1) (lc k) (lc k)=true
  unfold Instr.sameBits lc ew
  simp only [List.zip_cons_cons,List.zip_nil_left,tI,List.all_nil]
  unfold Instr.sameBits
  simp
  have A: ∀l:ByteArray,(l==l)=true:=fun l=>by
   cases l with
   |mk ah=>exact(A4 ah:(ah==ah)=true)
  exact⟨A _,A _⟩
 inj:=fun a b h=>by
  obtain⟨a1,a2⟩:=a;obtain⟨b1,b2⟩:=b
  simpa [lc,ew] using h
section
variable [DecidableEq κ]{k:κ}{x i:Operand}{dst:Option Nat}
def Te{x:Operand}{y:α}{p:cX×cX}(hag:r.agg=true)(hr: ∀S cs,r.rc S cs y->cs=[ew p.1,ew p.2])(h:bk N G x (Z r y)):yY N G x (lc p):=fun S a hf=>by
 obtain⟨cs,e,H⟩:=h S a hf
 rw [e,hr S cs H]
 simp [Rp.val,hag,lc]
def LO{z:β}{zv:Value}(hm:E.P.underlying t=some (.map kt et))(hk:Sc E.P kt kv)(hz:ZV E.P et zv)(hzt: ∀S,(γ z).p S zv)(hmem:eO γ kv b m∈O)(D:bk E.N G x (tV (aH b)))(hi:yY E.N G i (kv k)):
  cH E O G ⟨dst,.lookup t x i true,ty,pos,after,g⟩ (tT [γ ((ie m k).getD z),Z rB (ie m k).isSome]):= .of_pure fun a w S hs ho hf=>by
 obtain⟨⟨_,es,clock,h3,h4⟩,_⟩:=dA.mem ho _ hmem
 have H:a.eval x=aH b:=D S a hf
 have J:a.eval i=kv k:=hi S a hf
 obtain⟨u,g1,g2⟩:=N7 hk (k:=k) (w:=w) 0 h4
 have hfk:(Instr.findKey kt (kv k) es.toList).run E.P w= .ok u w:=by rw [run_findKey_eq w hk.wide];exact g1
 rcases g2 with⟨rfl,_,g3⟩|⟨j,e,y,rfl,_,_,g3,g4⟩
 ·refine⟨.tuple #[zv,.bool false],?_,_,rfl,by rw [g3];exact hzt S,by rw [g3];exact kP.2 rfl,trivial⟩
  simp [execOp,H,J,Instr.lookup,aH,jZ hm,KN h3,hk.chk,hfk,hz.run,Result.andThen]
 ·refine⟨.tuple #[e.val,.bool true],?_,_,rfl,by rw [g3];exact g4,by rw [g3];exact kP.2 rfl,trivial⟩
  simp [execOp,H,J,Instr.lookup,aH,jZ hm,KN h3,hk.chk,hfk,Result.andThen]
def RT{os:List (Option Nat×Nat)}{m:List (κ×List α)}(hm:E.P.underlying t=some (.map kt et))(hk:Bq E.P kt kv)(hz:ZV E.P et (.slice none 0 0))(D:bk E.N G x (tV (aH b)))(hi:yY E.N G i (kv k)):
  EffOK E (ci (Xd r T) kv b none os m::O) G ⟨some ah,.lookup t x i false,ty,pos,after,g⟩ (fun j=>K r T (j.h 0).1 (j.h 0).2 ((ie m k).getD [])::ci (Xd r T) kv b (some k) j.os m::O) (fun j=>tO r (j.h 0).1 (j.h 0).2 ((ie m k).getD [])):=fun a w S hs ho hf A=>by
 obtain⟨⟨⟨hno,hnb,es,clock,h3,h4,hst⟩,hfp⟩,hap,hO⟩:=ho
 obtain⟨q,hq,hdk,hinj⟩:=hk
 have H:a.eval x=aH b:=D S a hf
 have J:a.eval i=kv k:=hi S a hf
 obtain⟨os',p1,p2,h5⟩:=rk hdk hinj (k:=k) 0 h4
 have hn: ∀o∈os',o.1≠some b:=fun o ho=>by
  rcases p1 o ho with h|h
  ·exact hnb o h
  ·rw [h];exact fun e=>by cases e
 have hfp' : ∀j,(j=b\/ ∃o∈os',o.1=some j)->(j=b\/ ∃o∈os,o.1=some j):=fun j hj=>hj.imp id fun⟨o,ho,e⟩=>by
  rcases p1 o ho with h|h
  ·exact⟨o,h,e⟩
  ·rw [h]at e;cases e
 rcases h5 with⟨g1,g2⟩|⟨y,o,e,j,g1,g2,g3,g4,g5⟩
 ·have hrun:(execOp a.eval ⟨some ah,.lookup t x i false,ty,pos,after,g⟩).run E.P w= .ok (.value (.slice none 0 0)) w:=by simp [execOp,H,J,lA hm hq (hdk k) h3 hz g2]
  refine⟨fun c h=>(by cases h),?_⟩
  rw [hrun]
  exact⟨_,S,{h:=fun _=>(none,0),os:=os' },rfl,lq.refl _ _ _,hs,⟨⟨⟨[],⟨by rw [g1];rfl,rfl⟩,by rw [g1];rfl,fun b A=>(by cases A)⟩,fun j hj=>(by cases hj)⟩,fun f _ j hj=>(by cases hj),⟨⟨hno,hn,es,clock,h3,p2,hst⟩,fun j hj=>hfp j (hfp' j hj)⟩,fun f hf j hj=>hap f hf j (hfp' j hj),hO⟩,
   by rw [g1];rfl,by rw [g1];exact Cz⟩
 ·have hrun:(execOp a.eval ⟨some ah,.lookup t x i false,ty,pos,after,g⟩).run E.P w= .ok (.value e.val) w:=by simp [execOp,H,J,lA hm hq (hdk k) h3 hz g4]
  refine⟨fun c h=>(by cases h),?_⟩
  rw [hrun]
  have hy:(ie m k).getD []=y:=by rw [g1];rfl
  refine⟨_,S,{h:=fun _=>o,os:=os' },rfl,lq.refl _ _ _,hs,⟨⟨by rw [hy];exact g3.2,fun j hj=>hfp j (.inr ⟨o,g2,hj⟩)⟩,fun f hf j hj=>?_,⟨⟨hno,hn,es,clock,h3,p2,hst⟩,fun j hj=>hfp j (hfp' j hj)⟩,fun f hf j hj=>hap f hf j (hfp' j hj),hO⟩,
   by rw [hy];exact g3.1,by rw [hy,g3.1];exact nc g3.2⟩
  rcases gn.1 hf with rfl|hf
  ·intro hj'
   rcases hj' with rfl|⟨o',ho',e'⟩
   ·exact hnb o g2 hj
   ·exact g5 o' ho' j hj e'
  ·exact hap f hf j (.inr ⟨o,g2,hj⟩)
end
def Ou{q:Rp α}{zs:List α}{x y:Operand}{dT sT el:TypeId}(hq:q.sz=1)(hu:E.P.underlying dT=some (.slice el))(hs:(E.P.info? el).map (·.size)=some 1)(D:bk E.N G x (tV (Y l cap xs.length)))(hy: ∀a w S,mU w S->dA E.base E.B w S (f6 q U l cap xs::O)->dm E.N S a G-> ∃S1,mU w S1/\(Z (eM q) ys).p S1 (a.eval y)/\ ∀cs zs,ul q S1 cs zs->ul q S cs (zs:List α))(hz:wT xs ys=zs):
  EffOK E (f6 q U l cap xs::O) G ⟨some ah,.call ⟨.builtin .copy,#[x,y],#[dT,sT]⟩,ty,pos,after,g⟩ (fun _=>f6 q U l cap zs::O) (fun _=>Z (rI .i64) ((min ys.length xs.length:Nat):Int)):=fun a w S hs0 ho hf A=>by
 subst hz
 have H:a.eval x=Y l cap xs.length:=D S a hf
 obtain⟨S1,hs1,hy1,hback⟩:=hy a w S hs0 ho hf
 obtain⟨ad,cap',J,_,_,h3⟩:=m4.1 hy1
 obtain⟨⟨cells,hraw,hrc,hS⟩,hbase⟩:=ho.1
 have hm:min ys.length xs.length<=ys.length:=Nat.min_le_left _ _
 cases l with
 |none=>
  have hx0:xs=[]:=y9 hraw.1
  subst hx0
  have hrun:(Builtin.copy_ #[dT,sT] ty #[.slice none 0 0,a.eval y]).run E.P w= .ok (goInt 0) w:=by
   rw [J]
   cases hel:E.P.info? el with
   |none=>simp [hel]at hs
   |some i=>
    have hi:i.size=1:=by simpa [hel] using hs
    cases ad with
    |none=>simp [Builtin.copy_,jZ hu,Builtin.lenOf,Builtin.firstCells,sizeOf,typeInfo,hel,hi,storeCells]
    |some p=>
     have hl:=run_loadCells_list (P:=E.P) w p [] (fun j v hv=>by simp at hv)
     simp only [sG]at hl
     simp [Builtin.copy_,jZ hu,Builtin.lenOf,Builtin.firstCells,sizeOf,typeInfo,hel,hi,storeCells,hl]
  have hx' :(execOp a.eval ⟨some ah,.call ⟨.builtin .copy,#[x,y],#[dT,sT]⟩,ty,pos,after,g⟩).run E.P w= .ok (.value (goInt 0)) w:=by
   have h1' :a.eval x= .slice none 0 0:=H
   simp [execOp,resolve,h1',invoke,builtin,hrun]
  refine⟨fun c h=>(by cases h),?_⟩
  rw [hx']
  refine⟨_,S,oD,rfl,lq.refl _ _ _,hs0,?_,?_⟩
  ·have e:wT ([]:List α) ys=[]:=by unfold wT;simp
   rw [e];exact ho
  ·exact f8.2 (by simp [goInt])
 |some b=>
  obtain⟨cur,g1,g2,g3,g4,g5⟩:=hraw
  rw [hq,FS]at g4 g5
  have h1' :a.eval x= .slice (some ⟨b,0,none⟩) xs.length cap:=H
  have hxl:xs.length<=cur.toList.length:=by simp [g4];exact g2
  obtain⟨cs,hcs,hrun,hlen⟩: ∃cs,ul q S cs (ys.take (min ys.length xs.length))/\(Builtin.copy_ #[dT,sT] ty #[.slice (some ⟨b,0,none⟩) xs.length cap,a.eval y]).run E.P w= .ok (goInt cs.length) (w.setRow b (cs++cur.toList.drop cs.length).toArray)/\cs.length=min ys.length xs.length:=by
   rw [J]
   rcases h3 with rfl|⟨b',off,c,T',fr,rfl,e2,e3⟩
   ·refine⟨[],by simp [ul],?_,by simp⟩
    cases hel:E.P.info? el with
    |none=>simp [hel]at hs
    |some i=>
     have hi:i.size=1:=by simpa [hel] using hs
     have hself:w.setRow b (([]:List Value)++cur.toList.drop ([]:List Value).length).toArray=w:=by simpa using setRow_self w b cur U (0,0) g1
     rw [hself]
     cases ad with
     |none=>simp [Builtin.copy_,jZ hu,Builtin.lenOf,Builtin.firstCells,sizeOf,typeInfo,hel,hi,storeCells]
     |some p=>
      have hl:=run_loadCells_list (P:=E.P) w p [] (fun j v hv=>by simp at hv)
      simp only [sG]at hl
      simp [Builtin.copy_,jZ hu,Builtin.lenOf,Builtin.firstCells,sizeOf,typeInfo,hel,hi,storeCells,hl]
   ·obtain⟨c',h8,h9⟩:=hs1.part e2 (mC e3)
    obtain⟨d1,d2⟩:=Pu hq e3 hm
    rw [yL,hq,FS,Co hm]at d1
    have hl:((c.toList.drop off).take (min ys.length xs.length)).length=min ys.length xs.length:=by
     rw [mC d1,hq,FS,Bw,Co hm]
    refine⟨_,hback _ _ d1,?_,hl⟩
    have:=run_copy_row (P:=E.P) w dT sT ty el b 0 xs.length cap ⟨b',off,none⟩ ys.length cap' cur U ((c.toList.drop off).take (min ys.length xs.length)) hu hs g1 hl (fun j v hv=>?_) (by rw [hl];simp at hxl;omega) (CQ d1)
    ·simpa using this
    ·have hj:j<min ys.length xs.length:=by rw [<-hl];exact(kN.1 hv).1
     have hcell:w.cell? ⟨b',off+j,none⟩=c'[off+j]? :=AG h8 _
     rw [jA]
     show w.cell? ⟨b',off+j,none⟩=_
     rw [hcell]
     have h10:((c'.toList.drop off).take (ys.length*q.sz))[j]? =((c.toList.drop off).take (ys.length*q.sz))[j]? :=by rw [h9]
     rw [DC (by rw [hq];omega),DC (by rw [hq];omega),y0,y0]at h10
     rw [DC hj,y0]at hv
     rw [<-hv,<-O3,h10]
  have hx' :(execOp a.eval ⟨some ah,.call ⟨.builtin .copy,#[x,y],#[dT,sT]⟩,ty,pos,after,g⟩).run E.P w= .ok (.value (goInt cs.length)) (w.setRow b (cs++cur.toList.drop cs.length).toArray):=by
   simp [execOp,resolve,h1',invoke,builtin,hrun]
  refine⟨fun c h=>(by cases h),?_⟩
  rw [hx']
  have hle:min ys.length xs.length<=xs.length:=Nat.min_le_right _ _
  have hrc' :ul q S (cur.toList.take xs.length) xs:=by rw [g5];exact hrc
  obtain⟨_,d4⟩:=Pu hq hrc' hle
  have hno:S b=none:=hS b rfl
  have hnew:AY false q U (some b) cap (wT xs ys) (w.setRow b (cs++cur.toList.drop cs.length).toArray) S:=by
   refine⟨(cs++cur.toList.drop cs.length).take xs.length,⟨_,setRow_heap w b cur _ U _ g1,by rw [yy];exact g2,g3,?_,by rw [yy,hq,FS]⟩,?_,fun b' hb' =>by cases hb';exact hno⟩
   ·simp [hlen,hq];simp at hxl;omega
   ·unfold wT
    have e1:ys.take xs.length=ys.take (min ys.length xs.length):=by rw [List.take_eq_take_iff];omega
    have e2:(cs++cur.toList.drop cs.length).take xs.length=cs++(cur.toList.take xs.length).drop cs.length:=by
     rw [List.take_append,rF (by omega),Cs]
    rw [e1,e2,hlen]
    exact vO hcs d4
  obtain⟨k1,k2,k3⟩:=nk (O:=O) hs0 (w' :=w.setRow b (cs++cur.toList.drop cs.length).toArray) (f6 q U (some b) cap xs) (f6 q U (some b) cap (wT xs ys)) ho (fun k=>by simp [f6,mh];exact eq_comm) (fun k=>by simp [f6,mh];exact eq_comm) ⟨rfl,rfl,rfl,by simp [World.setRow],f7 _⟩ (fun k hk=>setRow_other w b k _ hk) hnew hno
  refine⟨_,S,oD,rfl,k1.more fun k hk=>⟨_,oh ..,by subst hk;rfl⟩,k2,k3,?_⟩
  rw [hlen]
  exact f8.2 rfl
def Ot{k:IntKind}{hg:TypeId}{l2:Option Nat}{cap2:Nat}{xs ys zs ws:List Int}{lo hi:Int}{x y:Operand}{dT sT el:TypeId}(hm:mh mm (rI k) hg l2 cap2 ws∈f6 (rI k) U l cap xs::O)(hsl:dJ ws lo hi=some ys)(hu:E.P.underlying dT=some (.slice el))(hs:(E.P.info? el).map (·.size)=some 1)(D:bk E.N G x (tV (Y l cap xs.length)))(hy:bk E.N G y (tV (pf 1 l2 cap2 lo.toNat ys.length)))(hz:wT xs ys=zs):
  EffOK E (f6 (rI k) U l cap xs::O) G ⟨some ah,.call ⟨.builtin .copy,#[x,y],#[dT,sT]⟩,ty,pos,after,g⟩ (fun _=>f6 (rI k) U l cap zs::O) (fun _=>Z (rI .i64) ((min ys.length xs.length:Nat):Int)):=
 Ou rfl hu hs D (fun a w S hs0 ho hf=>by
  obtain⟨S1,H,J⟩:=QT hsl (dA.mem ho _ hm).1 hs0
  refine⟨S1,H,?_,fun cs zs h=>by rw [CR h];exact(CR h)▸LE (fun h=>h) h⟩
  rw [show a.eval y=pf 1 l2 cap2 lo.toNat ys.length from hy S a hf]
  exact J) hz
abbrev Pb:Option Nat×Nat:=(none,0)
def Va(l:List (Option Nat×Nat))(os:List (List (Option Nat×Nat))):OI:={h:=fun n=>l.getD n (none,0),oss:=fun n=>os.getD n []}
def Tl{get:α->Value}{cs:List Value}{x:α}(h:jj r off rV get)(k:r.rc S cs x):cs[off]? =some (get x):=by
 have H:(cs.drop off).take 1=[get x]:=(h S cs x k).1
 rw [List.take_one,List.head?_drop]at H
 cases hc:cs[off]? with
 |none=>rw [hc]at H;cases H
 |some v=>rw [hc]at H;simpa using H

def Gd(t:Ty):Ty where
 p:=fun S v=>v.oneCell' =true/\t.p S v
 mono:=fun h ⟨e,k⟩=>⟨e,t.mono h k⟩
def Z4{t:Ty}: ∀S v,(Gd t).p S v->t.p S v:=fun _ _ h=>h.2
def Yd{t:Ty}: ∀S v,(Gd t).p S v->v.oneCell' =true:=fun _ _ h=>h.1
def UV(n:FuncId)(pre post:List Ty)(b:Nat):Ty where
 p:=fun S v=> ∃us vs,v= .func (.func n) #[] (us++an b 0::vs).toArray/\AZ S pre us/\AZ S post vs
 mono:=fun h ⟨us,vs,e,k1,k2⟩=>⟨us,vs,e,k1.mono h,k2.mono h⟩
variable{post pre:List Ty}
def Ye: ∀S v,(UV n pre post b).p S v->v.oneCell' =true:=fun _ _ ⟨_,_,e,_⟩=>by rw [e];rfl
def UU(n:FuncId)(pre post:List Ty)(b:Nat):Ty:=tPV (an b 0) (bo (rT (UV n pre post b)) ())
variable{Ob:X->OI->List OE}{args:hb->List Ty}{res:ρ->Ty}
section
def Rt{caps:List Operand}{cts:List Ty}(hc:ak E.P fid=true)(hp:kD E.N G caps cts)(hs: ∀x y R,f x y=some R-> ∀i,ea E.P fid (args y++cts) (Ob x i) (fun _:OI=>res R.1) (fun j=>Ob R.2 j)):
  cH E O G ⟨dst,.makeFunc (.func fid) #[] caps.toArray,ty,pos,after,g⟩ (Gd (mY E.P args Ob res f)):= .of_pure fun a w S _ _ hf=>by
 have H:=hp.tys hf
 refine⟨.func (.func fid) #[] (caps.map a.eval).toArray,by simp [execOp,Instr.makeFunc],rfl,fun x y R hR=>⟨fid,#[],(caps.map a.eval).toArray,rfl,hc,fun i w' S' vs hle hsat hv ho=>?_⟩⟩
 have:=hs x y R hR i w' S' (vs++caps.map a.eval) hsat (hv.append (H.mono hle)) ho
 rw [show(#[]++vs.toArray++(caps.map a.eval).toArray:Array Value)=(vs++caps.map a.eval).toArray from by simp]
 exact this
def Ru{xs ys:List Operand}{x:Operand}(H:kD E.N G xs pre)(D:bk E.N G x (tV (an b 0)))(J:kD E.N G ys post):
  cH E O G ⟨dst,.makeFunc (.func n) #[] (xs++x::ys).toArray,ty,pos,after,g⟩ (UV n pre post b):= .of_pure fun a w S _ _ hf=>by
 have h3:a.eval x=an b 0:=D S a hf
 exact⟨.func (.func n) #[] ((xs++x::ys).map a.eval).toArray,by simp [execOp,Instr.makeFunc],xs.map a.eval,ys.map a.eval,by simp [h3],H.tys hf,J.tys hf⟩
def I0{p:Operand}(ti:TI E.P U 1 bytes false z)(hp:bk E.N G p (UU n pre post b)):cH E O G ⟨dst,.load U p,ty,pos,after,g⟩ (UV n pre post b):=vP ti (Z3 hp)
def IZ{t:Ty}{p:Operand}(ti:TI E.P U 1 bytes false z)(hp:bk E.N G p (bo (rT (Gd t)) ())):cH E O G ⟨dst,.load U p,ty,pos,after,g⟩ t:=(vP ti hp).imp Z4
def Hp{pst:List Ty}{fo cp:Operand}{xs:List Operand}(O1 Or:List OE){t:OI->Ty}{O2 post:OI->List OE}(hO:O=O1++Or)(hf:bk E.N G fo (UV n pre pst b))(hcp:bk E.N G cp (UU n pre pst b))(hc:ak E.P n=true)(hs:ea E.P n (ts++(pre++UU n pre pst b::pst)) O1 t O2)(D:kD E.N G xs ts)(hpost: ∀i,O2 i++Or=post i):
  EffOK E O G ⟨some ah,.call ⟨.value fo,xs.toArray,ats⟩,ty,pos,after,g⟩ post t:=fun a w S hsat ho hF A=>by
 subst hO
 obtain rfl:(fun i=>O2 i++Or)=post:=funext hpost
 obtain⟨us,vs,e,H,J⟩:=hf S a hF
 have h3:(UU n pre pst b).p S (an b 0):=by
  have:=hcp S a hF
  exact⟨rfl,this.2⟩
 have hr:(execOp a.eval ⟨some ah,.call ⟨.value fo,xs.toArray,ats⟩,ty,pos,after,g⟩).run E.P w= .ok (.enter n (xs.map a.eval++(us++an b 0::vs)).toArray) w:=by
  simp [execOp,resolve,e,Deferred.ofValue,invoke,kf hc]
 refine⟨fun c h=>(by cases h),?_⟩
 rw [hr]
 have h4:AZ S (ts++(pre++UU n pre pst b::pst)) (xs.map a.eval++(us++an b 0::vs)):=(D.tys hF).append (H.append ⟨h3,J⟩)
 exact(hs w S _ hsat h4 (ry ho).1.weak).mono fun en w' ⟨i,v,S',he,hv,H,J,h3,h4⟩=>⟨_,he,v,S',i,rfl,H.more fun b ⟨f,hf,A⟩=>⟨f,FQ _ hf,A⟩,J,dA.turn ho A H h3 h4,hv⟩
end
def UD(P:Program){hb X ρ:Type}(args:hb->List Ty)(Ob:X->OI->List OE)(res:ρ->Ty):Rp (X->hb->Option (ρ×X)) where
 sz:=1
 agg:=false
 rc:=fun S cs f=> ∃v,cs=[v]/\v.oneCell' =true/\(mY P args Ob res f).p S v
 mono:=fun h ⟨v,e,k,k2⟩=>⟨v,e,k,(mY _ _ _ _ _).mono h k2⟩
 len:=fun⟨v,h,_⟩=>by rw [h];rfl
 one:=fun⟨v,h,k,_⟩ c hc=>by rw [h]at hc;simp at hc;subst hc;exact k
 sc:=fun _=>rfl
def X4{x:Operand}(h:bk N G x (Z (UD P args Ob res) f)):bk N G x (mY P args Ob res f):=fun S a hf=>by
 obtain⟨cs,e,v,rfl,_,k⟩:=h S a hf
 rw [e];exact k
section
def vm{p:Operand}(hc:ak E.P fid=true)(hp:bk E.N G p (tV (an b 0)))(hs: ∀x y R,f x y=some R-> ∀i,ea E.P fid (tV (an b 0)::args y) (Ob x i) (fun _:OI=>res R.1) (fun j=>Ob R.2 j)):
  cH E O G ⟨dst,.makeFunc (.func fid) #[p] #[],ty,pos,after,g⟩ (Z (UD E.P args Ob res) f):= .of_pure fun a w S _ _ hf=>by
 have H:a.eval p=an b 0:=hp S a hf
 refine⟨.func (.func fid) #[an b 0] #[],by simp [execOp,Instr.makeFunc,H],[_],rfl,_,rfl,rfl,fun x y R hR=>⟨fid,#[an b 0],#[],rfl,hc,fun i w' S' vs _ hsat hv ho=>?_⟩⟩
 have:=hs x y R hR i w' S' (an b 0::vs) hsat ⟨rfl,hv⟩ ho
 rw [show(#[an b 0]++vs.toArray++ #[]:Array Value)=(an b 0::vs).toArray from by simp]
 exact this
end
variable{x0 x1 x10 x11 x12 x13 x14 x15 x2 x3 x4 x5 x6 x7 x8 x9:OE}
section
variable{c:Code}{e:Exit}{base:Nat}{B:Nat->Prop}{o:Oper}{post:OI->List OE}{t:OI->Ty}
def Jd:(x0::x1::x2::x3::x4::x5::x6::x7::x8::x9::x10::x11::x12::x13::x14::x15::O).Perm (x15::x0::x1::x2::x3::x4::x5::x6::x7::x8::x9::x10::x11::x12::x13::x14::O):=(List.perm_middle (l₁:=[x0,x1,x2,x3,x4,x5,x6,x7,x8,x9,x10,x11,x12,x13,x14]) (l₂:=O))
def HJ(h:RG E ops aC rest (x15::x0::x1::x2::x3::x4::x5::x6::x7::x8::x9::x10::x11::x12::x13::x14::O) G):RG E ops aC rest (x0::x1::x2::x3::x4::x5::x6::x7::x8::x9::x10::x11::x12::x13::x14::x15::O) G:=fun a w S st=>h a w S (st.own_map fun ho=>ho.perm Jd)
def rm(h:AT E aC e (x15::x0::x1::x2::x3::x4::x5::x6::x7::x8::x9::x10::x11::x12::x13::x14::O) G):AT E aC e (x0::x1::x2::x3::x4::x5::x6::x7::x8::x9::x10::x11::x12::x13::x14::x15::O) G:=fun a w S st=>h a w S (st.own_map fun ho=>ho.perm Jd)
def Uk:(x0::x1::x2::x3::x4::x5::x6::x7::x8::x9::x10::x11::O).Perm (x1::x2::x3::x4::x5::x6::x7::x8::x9::x10::x11::x0::O):=(List.perm_middle (l₁:=[x1,x2,x3,x4,x5,x6,x7,x8,x9,x10,x11]) (l₂:=O)).symm
def pS(h:EffOK E (x1::x2::x3::x4::x5::x6::x7::x8::x9::x10::x11::x0::O) G o post t):EffOK E (x0::x1::x2::x3::x4::x5::x6::x7::x8::x9::x10::x11::O) G o post t:=EffOK.perm h (fun ho=>ho.perm Uk) (fun f hf=>Uk.symm.subset hf)
def Uj:(x0::x1::x2::x3::x4::x5::x6::x7::x8::x9::x10::x11::x12::O).Perm (x1::x2::x3::x4::x5::x6::x7::x8::x9::x10::x11::x12::x0::O):=(List.perm_middle (l₁:=[x1,x2,x3,x4,x5,x6,x7,x8,x9,x10,x11,x12]) (l₂:=O)).symm
def Cj(h:EffOK E (x1::x2::x3::x4::x5::x6::x7::x8::x9::x10::x11::x12::x0::O) G o post t):EffOK E (x0::x1::x2::x3::x4::x5::x6::x7::x8::x9::x10::x11::x12::O) G o post t:=EffOK.perm h (fun ho=>ho.perm Uj) (fun f hf=>Uj.symm.subset hf)
end
open Go.Sort Go.Shelf

def C5(h:k<w.heap.size):(grow w os).heap[k]? =w.heap[k]? :=by
 unfold grow;exact Array.getElem?_append_left h
variable{enc:α->Value}
def L9 [Inhabited α]{ah:Array α}(h:k≠b):(putRow enc w b off ah).heap[k]? =w.heap[k]? :=by
 unfold putRow mapBlock
 rw [Array.getElem?_modify,cm (Ne.symm h)]
def C4 [Inhabited α]{m:Nat}{ah:Array α}(hk:k<w.heap.size)(h:k≠b):(sortWorld enc w b off m ah os).heap[k]? =w.heap[k]? :=by
 unfold sortWorld
 rw [C5 (by rw [size_putRow];exact hk),L9 h];rfl
def J7 [Inhabited α]{m:Nat}{ah:Array α}{c:Array Value}{fr:Nat×Nat}(h:w.heap[b]? =some (.cells c T fr)):
  (sortWorld enc w b off m ah os).heap[b]? =some (.cells (putCells enc off ah c) T fr):=by
 have hlt:=(BA.1 h).1
 unfold sortWorld
 rw [C5 (by rw [size_putRow];exact hlt)]
 unfold putRow mapBlock
 rw [Array.getElem?_modify,cx rfl]
 show Option.map _ (w.heap[b]?)=_
 rw [h];rfl
def Ib [Inhabited α]{ah:Array α}{c:Array Value}(h:ah.size<=c.size):(putCells enc 0 ah c).toList.take ah.size=ah.toList.map enc:=by
 apply KP
 intro k
 by_cases hk:k<ah.size
 ·rw [DC hk]
  have hc:k<c.size:=by omega
  simp [putCells,hc,hk]
 ·rw [IA (by simp;omega),IA (by simp;omega)]
section
def MD{n m:Nat}(hl:m=n)(s:Nat)(hs:look G s=some (tV (Y l cap n)))(k:RG E ops aC rest O ((s,tV (Y l cap m))::G)):RG E ops aC rest O G:=by
 subst hl
 exact fun a w S st=>k a w S ⟨st.ext,st.sat,st.own,⟨st.facts.size,st.facts.defers,fun j t h=>by
  unfold look at h
  by_cases A:Nat.beq s j=true
  ·rw [A]at h
   have:=qZ A
   subst this
   have e:tV (Y l cap m)=t:=by simpa using h
   rw [<-e];exact st.facts.at_ s _ hs
  ·rw [DB]at A
   rw [A]at h
   exact st.facts.at_ j t h⟩⟩
end

def Zy{α:Type}(cmp:α×α->Option Int)(x y:α):Bool:=
 match cmp (x,y)with
 |some c=>decide (c<0)
 |none=>false
def aad{α:Type}(lt:α->α->Bool)(x:α):List α->List α
 |[]=>[x]
 |y::ys=>if lt y x then y::aad lt x ys else x::y::ys
def Xg{α:Type}(lt:α->α->Bool):List α->List α
 |[]=>[]
 |x::xs=>aad lt x (Xg lt xs)
structure Good{α:Type}(cmp:α×α->Option Int)(xs:List α):Prop where
 len:xs.length<=1099511627776
 tot: ∀x∈xs,∀y∈xs,(cmp (x,y)).isSome=true
 irr: ∀x∈xs,Zy cmp x x=false
 tr: ∀x∈xs,∀y∈xs,∀z∈xs,Zy cmp x y=true->Zy cmp y z=true->Zy cmp x z=true
 anti: ∀x∈xs,∀y∈xs,Zy cmp x y=false->Zy cmp y x=false->x=y
def sortI(xs:List Int):List Int:=xs.mergeSort fun x y=>decide (x<=y)
def DI(xs:List Int):(sortI xs).length=xs.length:=by unfold sortI;simp
def I9(x:Int):List Int->List Int
 |[]=>[x]
 |y::l=>if x<=y then x::y::l else y::I9 x l
def RE:List Int->List Int
 |[]=>[]
 |x::l=>I9 x (RE l)
def BU(x:Int): ∀l:List Int,(I9 x l).Perm (x::l)
 |[]=> .refl _
 |y::l=>by
  unfold I9
  split
  ·exact .refl _
  ·exact((BU x l).cons y).trans (.swap x y l)
def I8: ∀l:List Int,(RE l).Perm l
 |[]=> .refl _
 |x::l=>(BU x (RE l)).trans ((I8 l).cons x)
def L4(x:Int): ∀l:List Int,l.Pairwise (· <= ·)->(I9 x l).Pairwise (· <= ·)
 |[],_=>List.pairwise_singleton _ _
 |y::l,h=>by
  have hy: ∀z∈l,y<=z:=fun z hz=>List.rel_of_pairwise_cons h hz
  unfold I9
  split
  ·rename_i D
   refine List.Pairwise.cons (fun z hz=>?_) h
   rcases gn.1 hz with rfl|hz
   ·exact D
   ·exact Int.le_trans D (hy z hz)
  ·rename_i D
   refine List.Pairwise.cons (fun z hz=>?_) (L4 x l (List.Pairwise.of_cons h))
   rcases gn.1 ((BU x l).mem_iff.1 hz)with rfl|hz
   ·omega
   ·exact hy z hz
def PN: ∀l:List Int,(RE l).Pairwise (· <= ·)
 |[]=> .nil
 |x::l=>L4 x _ (PN l)
def Vg(l:List Int):RE l=sortI l:=by
 refine List.Perm.eq_of_pairwise (le:=(· <= ·)) (fun a b _ _ H J=>Int.le_antisymm H J) (PN l) ?_ ((I8 l).trans (List.mergeSort_perm l _).symm)
 have:=List.pairwise_mergeSort (le:=fun x y:Int=>decide (x<=y)) (fun a b c H J=>by simp at*;omega) (fun a b=>by simp;omega) l
 exact this.imp fun h=>by simpa using h
def Ge(xs:List Int):Option (List Int):=if xs.length<=68719476736 then some (RE xs)else none
def IJ(xs:List Int):Ge xs=if xs.length<=68719476736 then some (sortI xs)else none:=by
 unfold Ge
 rw [Vg]
def Le{xs ys:List Int}(h:Ge xs=some ys):xs.length<=68719476736/\ys=sortI xs:=by
 rw [IJ]at h
 split at h
 ·exact⟨by assumption,by simpa using h.symm⟩
 ·cases h


def Pt{k:IntKind}{S:SH}: ∀{xs:List Int} {cs:List Value},ul (rI k) S cs xs->cs=xs.map (Value.int k)
 |[],cs,h=>by rw [show cs=[]from h];rfl
 |x::xs,cs,⟨a,b,e,H,J⟩=>by
  rw [e,show a=[.int k x]from H,Pt J]
  rfl
def PM{k:IntKind}{S:SH}: ∀xs:List Int,ul (rI k) S (xs.map (Value.int k)) xs
 |[]=>rfl
 |x::xs=>⟨[.int k x],_,rfl,rfl,PM xs⟩
def Q4{ρ:Ren}(L:Lays.n189 P ρ){xs:List Int}(hlen0:xs.length<=68719476736)(hs:mU w S)(h:(f6 (rI .i64) T l cap xs).p w S):
  Calls P (ρ.f 189) #[Y l cap xs.length] w fun e w' =>e= .returned (.tuple #[])/\lq (fun k=>l=some k) w S w' S/\mU w' S/\(f6 (rI .i64) T l cap (sortI xs)).p w' S:=by
 cases l with
 |none=>
  have D:xs=[]:=y9 (by obtain⟨_,h4,_⟩:=h;exact h4.1)
  subst D
  exact(Any.slices_Sort_int_none (P:=P) (ρ:=ρ) L none 0 w).mono fun _ _ ⟨H,J⟩=>by subst J;exact⟨H,lq.refl _ _ _,hs,by simpa [sortI] using h⟩
 |some b=>
  obtain⟨cells0,⟨cur,A,hle,hmax,hcs,hct⟩,hrc,hno0⟩:=h
  have hno:S b=none:=hno0 b rfl
  subst hct
  have H:(rI .i64).sz=1:=rfl
  rw [H,FS]at hcs hrc
  have hcells:=Pt hrc
  have hH:Holds (Value.int .i64) w b 0 xs.toArray:=by
   intro j hj
   have hj' :j<xs.length:=by simpa using hj
   have hc:cur[j]? =some (Value.int .i64 xs.toArray[j]!):=by
    have:(cur.toList.take xs.length)[j]? =some (Value.int .i64 xs.toArray[j]!):=by
     rw [hcells,Iw,getElem!_pos xs.toArray j hj]
     simp [hj']
    rw [DC (by omega)]at this
    simpa using this
   refine⟨by simp [World.cell?,A,hc],?_⟩
   simp [World.frozen?,A]
  have hblk:=(BA.1 A).1
  have hcall:=calls_of_every_depth fun hx=>AnyS.slices_Sort_int_alone (P:=P) (ρ:=ρ) L hx b 0 cap xs w hH hblk (by omega)
  refine hcall.mono fun e w' ⟨he,n,os,hw⟩=>?_
  have hlen:=DI xs
  have hw2:w' =sortWorld (Value.int .i64) w b 0 n (sortI xs).toArray os:=hw
  subst hw2
  refine⟨he,⟨rfl,rfl,rfl,Nat.le_add_right _ _,?_,fun k hk hkb=>C4 hk (fun e=>hkb (by rw [e])),SH.le_refl _,fun _ _ _=>rfl⟩,hs.same fun k o hk=>?_,⟨_,⟨_,J7 A,by omega,hmax,?_,rfl⟩,?_,hno0⟩⟩
  ·unfold sortWorld;rw [size_grow,size_putRow];exact Nat.le_add_right _ _
  ·have hkb:k≠b:=fun e=>by subst e;rw [hno]at hk;cases hk
   exact C4 (hs.lt hk) hkb
  ·simp [putCells,H,hcs]
  ·have e1:(sortI xs).length*(rI .i64).sz=(sortI xs).toArray.size:=by rw [H];simp
   rw [e1,Ib (by simp;omega)]
   exact PM (sortI xs)
section
def Ur{ρ:Ren}(L:Lays.n189 E.P ρ){f:FuncId}(hf:ρ.f 189=f)(hc:ak E.P f=true){n:Nat}{xs ys:List Int}{x:Operand}(hy:Ge xs=some ys)(D:bk E.N G x (tV (Y l cap n)))(hn:n=xs.length)(hd:Nat.blt ah E.N.n=true)(k:ys.length=n->RG E ops aC rest (f6 (rI .i64) T l cap ys::O) ((ah,tS)::G)):RG E ops aC (⟨some ah,.call ⟨.value (.func f),#[x],ats⟩,ty,pos,after,none⟩::rest) (f6 (rI .i64) T l cap xs::O) G:= .of rfl fun a w S st=>by
 obtain⟨hl0,rfl⟩:=Le hy
 subst hf
 subst hn
 have H:a.eval x=Y l cap xs.length:=D S a st.facts
 have hr:(execOp a.eval ⟨some ah,.call ⟨.value (.func (ρ.f 189)),#[x],ats⟩,ty,pos,after,none⟩).run E.P w= .ok (.enter (ρ.f 189) #[Y l cap xs.length]) w:=by
  have e0:a.eval (.func (ρ.f 189))= .func (.func (ρ.f 189)) #[] #[]:=rfl
  simp [execOp,resolve,e0,H,Deferred.ofValue,invoke,kf hc]
 refine⟨fun c h=>(by cases h),?_⟩
 rw [hr]
 refine(Q4 L hl0 st.sat st.own.1.1).mono fun e w' ⟨he,hext,hsat,hp⟩=>⟨_,he,?_⟩
 have hfp: ∀g∈O,∀b,g.fp b-> ¬(l=some b):=fun g V b A hl=>st.own.2.1 g V b hl A
 refine k (DI xs) _ _ S ⟨st.ext.step hext (fun c hc=>st.own.1.2 c hc),hsat,⟨⟨hp,st.own.1.2⟩,st.own.2.1,st.own.2.2.ext hext hfp⟩,?_⟩;exact(st.facts.mono hext.keep).put hd trivial
end
open Go.Lib

variable{W:World}
def sm(hle: ∀(b:Nat) (o:Obj),W.heap[b]? =some o-> ∃o',w.heap[b]? =some o' /\HW o o'){v:Value}(h:W.cell? ⟨b,i,none⟩=some v):w.cell? ⟨b,i,none⟩=some v:=by
 unfold World.cell? at h ⊢
 cases A:W.heap[b]? with
 |none=>simp [A]at h
 |some o=>
  obtain⟨o',H,J⟩:=hle b o A
  simp only [A]at h
  simp only [H]
  cases o with
  |cells c T fr=>
   obtain⟨l,rfl⟩:=J
   simp only [Option.isSome_none,kM,jh]at h ⊢
   rw [<-O3]at h ⊢
   rw [Cq (kN.1 h).1]
   exact h
  |_=>simp at h
def MM{g:Nat}{T:Array CaseRow}(hle: ∀(b:Nat) (o:Obj),W.heap[b]? =some o-> ∃o',w.heap[b]? =some o' /\HW o o')(h:CaseVar g T W):CaseVar g T w:=by
 obtain⟨R,oR,cap,H,J⟩:=h
 exact⟨R,oR,cap,sm hle H,fun i hi=>⟨sm hle (J i hi).1,sm hle (J i hi).2.1,sm hle (J i hi).2.2.1,sm hle (J i hi).2.2.2.1,sm hle (J i hi).2.2.2.2⟩⟩
def KG{g3 g4:Nat}(hle: ∀(b:Nat) (o:Obj),W.heap[b]? =some o-> ∃o',w.heap[b]? =some o' /\HW o o')(h:Utf8Tabs g3 g4 W):Utf8Tabs g3 g4 w:=
 ⟨fun c hc=>sm hle (h.1 c hc),fun i hi=>⟨sm hle (h.2 i hi).1,sm hle (h.2 i hi).2⟩⟩
end Go.Proofs.YthbdkceckjihgaaGreatDoor

