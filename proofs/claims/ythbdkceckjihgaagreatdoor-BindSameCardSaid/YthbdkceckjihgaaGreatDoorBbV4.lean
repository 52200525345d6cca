/- du of this claim: W64, W59, W61, W63, W67, W68, W58, W66, W71, W72, W73, W60, W44, W55, W29, W54. -/
import Derived.Test.YthbdkceckjihgaaGreatDoorBbV3
import Derived.Test.YthbdkceckjihgaaGreatDoorBbV2
import Derived.WideKeyRuns
import Derived.Shelf.GgSortFunc.Insertion
import Derived.Shelf.Slices.In.SortNone
import Derived.Test.YthbdkceckjihgaaGreatDoorBbV1
import Derived.Shelf.Unicode.CaseTo
import Derived.Shelf.Unicode.DecodeSlow
set_option linter.all false
namespace Go.Proofs.YthbdkceckjihgaaGreatDoor
open Go

variable{aE:Nat}{α:Type}{n:FuncId}{r:Rp α}{t:TypeId}
def yF{n:Nat}{r s:Option Ty}{t u:Ty}(h:(vA n aE r,s)=(some t,some u)):Nat.blt aE n=true/\r=some t/\s=some u:=
 ⟨(dC (xG h).1).1,(dC (xG h).1).2,(xG h).2⟩
def WR(G:mK):Operand->Option Ty
 | .tmp k=>look G k
 | .const (.int k n)=>some (H (rI k) n)
 | .const (.bool b)=>some (H rB b)
 |_=>none
variable{G:mK}{N:Fr}{x:Nat}
def MM{t:Ty}: ∀{x:Operand},WR G x=some t->bf N G x t
 | .tmp _,h=>M h
 | .const (.int _ _),h=>by cases h;exact hI
 | .const (.bool _),h=>by cases h;exact hB
variable{ts:List Ty}{xs:List α}
def dd{N:Fr}{G:mK}: ∀{xs:List Operand} {ts:List Ty},xs.map (WR G)=ts.map some->kL N G xs ts
 |[],[],_=>trivial
 |_::_,_::_,h=>⟨MM (Ci h).1,dd (Ci h).2⟩

variable{hx:Type}{E:En}{O:List OE}{X:Type}{ah:Exit->Act->World->Prop}{T U:TypeId}{a:Nat}{after after2:Array Edge}{agg:Bool}{ats:Array TypeId}{b bytes c cap d2:Nat}{dst:Option Tmp}{e:TypeId}{ρ:Type}{f:X->hx->Option (ρ×X)}{fid:FuncId}{g:Option (Nat×Bool)}{β:Type}{get:α->β}{i id' :Nat}{j:IntKind}{k:Nat}{κ:Type}{l:Option Nat}{m:List (κ×β)}{off:Nat}{ops:Array Oper}{p:Nat}{pos pos2:String}{q:Rp β}{st:TypeId}{tl:List α}{ty ty2:TypeId}{v:Operand}{w:World}{xt:TypeId}{y:Code}{yt:TypeId}{z:List Value}{γ:β->Ty}
section
variable{l:List Oper}{op:Op}{t:Ty}
def Q(h:cE E O G ⟨some aE,op,ty,pos,after,none⟩ t)(k:RG E ops ah l O ((aE,t)::G))(hd:Nat.blt aE E.N.n=true:=by exact rfl):
  RG E ops ah (⟨some aE,op,ty,pos,after,none⟩::l) O G:=Jl h hd k
def cC{x:α}{sz:Nat}(ti:TI E.P U sz bytes agg z)(hp:vA E.N.n aE (look G p)=some (bt r x))(k:RG E ops ah l O ((aE,H r x)::G))(hs:(r.sz,r.agg)=(sz,agg):=by exact rfl):RG E ops ah (⟨some aE,.load U (.tmp p),ty,pos,after,none⟩::l) O G:=zo (dC hp).1 (qN ti (dC hp).2 hs) k
def oK{x:α}{sz:Nat}(hf:bP E.P T i=some (off,sz))(hq:jn r off q get)(hp:vA E.N.n aE (look G p)=some (bt r x))(k:RG E ops ah l O ((aE,bt q (get x))::G))(h0:(!(Nat.beq sz 0)&&Nat.ble (off+q.sz) r.sz)=true:=by exact rfl):
  RG E ops ah (⟨some aE,.fieldAddr T (.tmp p) i,ty,pos,after,none⟩::l) O G:=zo (dC hp).1 (oJ hf hq (dC hp).2 h0) k
def ba{x:α}{sz s2:Nat}{p2:Nat}(hf:bP E.P T i=some (off,sz))(hq:jn r off q get)(ti:TI E.P U s2 bytes agg z)(hp:vA E.N.n aE (look G p)=some (bt r x))(k:RG E ops ah l O ((d2,H q (get x))::(aE,bt q (get x))::G))(h0:(!(Nat.beq sz 0)&&Nat.ble (off+q.sz) r.sz)=true:=by exact rfl)(hp2:vA E.N.n d2 (look ((aE,bt q (get x))::G) p2)=some (bt q (get x)):=by exact rfl)(hs:(q.sz,q.agg)=(s2,agg):=by exact rfl):
  RG E ops ah (⟨some aE,.fieldAddr T (.tmp p) i,ty,pos,after,none⟩::⟨some d2,.load U (.tmp p2),ty2,pos2,after2,none⟩::l) O G:=oK hf hq hp (cC ti hp2 k hs) h0
def bv{sz o:Nat}(n:Nat)(hf:bP E.P T i=some (off,sz))(hp:vA E.N.n aE (look G p)=some (tV (an b o)))(k:RG E ops ah l O ((aE,tV (an b n))::G))(h0:Nat.beq sz 0=false:=by exact rfl)(he:o+off=n:=by exact rfl):RG E ops ah (⟨some aE,.fieldAddr T (.tmp p) i,ty,pos,after,none⟩::l) O G:=zo (dC hp).1 (lv n hf h0 (dC hp).2 he) k
def cY(A:vA E.N.n aE (look G x)=some (tT ts))(hi:ts[i]? =some t)(k:RG E ops ah l O ((aE,t)::G)):RG E ops ah (⟨some aE,.extract (.tmp x) i,ty,pos,after,none⟩::l) O G:=zo (dC A).1 (vS hi (dC A).2) k
def bG{n:Int}(k:RG E ops ah l O ((aE,H (rI j) n)::G))(hd:Nat.blt aE E.N.n=true:=by exact rfl):RG E ops ah (⟨some aE,.assign (.const (.int j n)),ty,pos,after,none⟩::l) O G:=zo hd zai k
def bw{b:Bool}(k:RG E ops ah l O ((aE,H rB b)::G))(hd:Nat.blt aE E.N.n=true:=by exact rfl):RG E ops ah (⟨some aE,.assign (.const (.bool b)),ty,pos,after,none⟩::l) O G:=zo hd zab k
def bW(hu:E.P.underlying st=some (.slice e))(A:vA E.N.n aE (look G x)=some (H (eO r) xs))(k:RG E ops ah l O ((aE,H (rI .i64) (xs.length:Int))::G)):
  RG E ops ah (⟨some aE,.call ⟨.builtin .len,#[.tmp x],#[st]⟩,ty,pos,after,none⟩::l) O G:=zo (dC A).1 (zln hu (dC A).2) k
def cK{v:α}(A:vA E.N.n aE (look G x)=some (H r v))(k:RG E ops ah l O ((aE,bt r v)::G)):RG E ops ah (⟨some aE,.box T (.tmp x),ty,pos,after,none⟩::l) O G:=zo (dC A).1 (zbx (dC A).2) k
def eV{b q:Bool}(h:(vA E.N.n aE (look G c),look G x)=(some (H rB b),some (qb b (H rB q))))(k:RG E ops ah l O ((aE,H rB (b&&q))::G)):
  RG E ops ah (⟨some aE,.pick (.tmp c) (.tmp x) (.const (.bool false)),ty,pos,after,none⟩::l) O G:=zo (yF h).1 (zpa (yF h).2.1 (yF h).2.2) k
def eu{b q:Bool}(h:(vA E.N.n aE (look G c),look G x)=(some (H rB b),some (qb (!b) (H rB q))))(k:RG E ops ah l O ((aE,H rB (b||q))::G)):
  RG E ops ah (⟨some aE,.pick (.tmp c) (.const (.bool true)) (.tmp x),ty,pos,after,none⟩::l) O G:=zo (yF h).1 (zpo (yF h).2.1 (yF h).2.2) k
section
variable{y:Nat}{m n:Int}
def sx(h:(vA E.N.n aE (look G x),look G y)=(some (H (rI j) m),some (H (rI j) n)))(k:RG E ops ah l O ((aE,H rB (decide (m<n)))::G)):
  RG E ops ah (⟨some aE,.binOp .lss xt (.tmp x) (.tmp y) yt,ty,pos,after,none⟩::l) O G:=zo (yF h).1 (zlt (yF h).2.1 (yF h).2.2) k
def dw(A:vA E.N.n aE (look G x)=some (H (rI j) m))(k:RG E ops ah l O ((aE,H rB (m==n))::G)):RG E ops ah (⟨some aE,.binOp .eql xt (.tmp x) (.const (.int j n)) yt,ty,pos,after,none⟩::l) O G:=zo (dC A).1 (zei (dC A).2) k
def gW(A:vA E.N.n aE (look G x)=some (H (rI j) m))(k:RG E ops ah l O ((aE,H rB (m !=n))::G)):RG E ops ah (⟨some aE,.binOp .neq xt (.tmp x) (.const (.int j n)) yt,ty,pos,after,none⟩::l) O G:=zo (dC A).1 (zni (dC A).2) k
def mV{c:Bool}(A:look G x=some (qb c (H (rI j) m)))(hc:c=true):cE E O G ⟨dst,.binOp .eql xt (.tmp x) (.const (.int j n)) yt,ty,pos,after,g⟩ (H rB (m==n)):=mg (bF A hc) hI
def tN{c:Bool}(A:look G x=some (qb c (H (rI j) m)))(hc:c=true):cE E O G ⟨dst,.binOp .neq xt (.tmp x) (.const (.int j n)) yt,ty,pos,after,g⟩ (H rB (m !=n)):=dZ (bF A hc) hI
def dh{id:Nat}{z w:Code}(A:xs.drop i=[])(h:(vA E.N.n aE (look G a),look G b)=(some (H (rI .i64) (i:Int)),some (H (rI .i64) (xs.length:Int))))(k:AT E ah .normal O ((aE,H rB (decide ((i:Int)<(xs.length:Int))))::G))(hc:look ((aE,H rB (decide ((i:Int)<(xs.length:Int))))::G) c=some (H rB (decide ((i:Int)<(xs.length:Int)))):=by exact rfl):
  LG E (Exit.inBlock id ah) (.seq (.region id' [⟨some aE,.binOp .lss xt (.tmp a) (.tmp b) yt,ty,pos,after,none⟩].toArray false) (.seq (.cond (.tmp c) z (.exit id)) w)) O G:=
 dX<|aY<|sx h<|bO<|aD<|qB (M hc) (TM A)<|eY<|aI (aI (cW k))
def dg{e:α}{z w:Code}(A:xs.drop i=e::tl)(h:(vA E.N.n aE (look G a),look G b)=(some (H (rI .i64) (i:Int)),some (H (rI .i64) (xs.length:Int))))(k:CG E (Exit.then (zA E.r E.P (.seq (.region id' [⟨some aE,.binOp .lss xt (.tmp a) (.tmp b) yt,ty,pos,after,none⟩].toArray false) (.seq (.cond (.tmp c) .skip z) w)) ah) ah) w O ((aE,H rB (decide ((i:Int)<(xs.length:Int))))::G))(hc:look ((aE,H rB (decide ((i:Int)<(xs.length:Int))))::G) c=some (H rB (decide ((i:Int)<(xs.length:Int)))):=by exact rfl):
  LG E ah (.seq (.region id' [⟨some aE,.binOp .lss xt (.tmp a) (.tmp b) yt,ty,pos,after,none⟩].toArray false) (.seq (.cond (.tmp c) .skip z) w)) O G:=
 dX<|aY<|sx h<|bO<|aD<|qA (M hc) (PU A)<|gC k
end
def uC{y:α}{ix:Nat}{i:Int}{sz:Nat}(hu:E.P.underlying st=some (.slice e))(ti:TI E.P e sz bytes agg z)(h:(vA E.N.n aE (look G x),look G ix)=(some (H (eO r) xs),some (H (rI j) i)))(hy:fB xs i=some y)(k:RG E ops ah l O ((aE,bt r y)::G))(hsz:r.sz=sz:=by exact rfl):
  RG E ops ah (⟨some aE,.indexAddr st (.tmp x) (.tmp ix),ty,pos,after,none⟩::l) O G:=zo (yF h).1 (Cc hu ti hsz (yF h).2.1 (yF h).2.2 hy) k
def dE{y:α}{ix:Nat}{i:Int}{sz:Nat}{p2:Nat}(hu:E.P.underlying st=some (.slice e))(ti:TI E.P e sz bytes agg z)(h:(vA E.N.n aE (look G x),look G ix)=(some (H (eO r) xs),some (H (rI j) i)))(hy:fB xs i=some y)(k:RG E ops ah l O ((d2,H r y)::(aE,bt r y)::G))(hsz:r.sz=sz:=by exact rfl)(hp2:vA E.N.n d2 (look ((aE,bt r y)::G) p2)=some (bt r y):=by exact rfl)(hs:(r.sz,r.agg)=(sz,agg):=by exact rfl):
  RG E ops ah (⟨some aE,.indexAddr st (.tmp x) (.tmp ix),ty,pos,after,none⟩::⟨some d2,.load e (.tmp p2),ty2,pos2,after2,none⟩::l) O G:=uC hu ti h hy (cC ti hp2 k hs) hsz
def bL{set:α->β->α}{x:α}{y:β}{sz:Nat}{v:Nat}{ty:TypeId}(ti:TI E.P U sz bytes agg z)(hset:eS r off q set)(h:(look G p,look G v)=(some (tV (an b off)),some (H q y)))(k:RG E ops ah l (bx r T b (set x y)::O) G)(hsz:q.sz=sz:=by exact rfl)(hoff:Nat.ble (off+q.sz) r.sz=true:=by exact rfl):
  RG E ops ah (⟨none,.store U (.tmp p) (.tmp v),ty,pos,after,none⟩::l) (bx r T b x::O) G:=mw ti hsz hset hoff (M (xG h).1) (M (xG h).2) k
def OP(n:Nat)(ops:Array Oper)(aE j:Nat)(G:mK):Option Ty:=((ops[j]?).bind (·.dst)).bind fun gs=>vA n gs (vA n aE (look G gs))
def F9{n aE j:Nat}{ops:Array Oper}{t:Ty}(h:OP n ops aE j G=some t): ∃gs,(ops[j]?).bind (·.dst)=some gs/\vA n gs (vA n aE (look G gs))=some t:=by
 unfold OP at h
 cases D:(ops[j]?).bind (·.dst)with
 |none=>rw [D]at h;cases h
 |some gs=>rw [D]at h;exact⟨gs,rfl,h⟩
def ap{j:Nat}{b:Bool}(D:OP E.N.n ops aE j G=some (H rB b))(h:b=true->cE E O G ⟨some aE,op,ty,pos,after,some (j,true)⟩ t)(k:RG E ops ah l O ((aE,qb b t)::G)):
  RG E ops ah (⟨some aE,op,ty,pos,after,some (j,true)⟩::l) O G:=by obtain⟨gs,V,Z⟩:=F9 D;exact zgt V Z h k
def au{j:Nat}{b:Bool}(D:OP E.N.n ops aE j G=some (H rB b))(h:(!b)=true->cE E O G ⟨some aE,op,ty,pos,after,some (j,false)⟩ t)(k:RG E ops ah l O ((aE,qb (!b) t)::G)):
  RG E ops ah (⟨some aE,op,ty,pos,after,some (j,false)⟩::l) O G:=by obtain⟨gs,V,Z⟩:=F9 D;exact zgf V Z h k
section
variable{c:Bool}
def bM{x:α}{sz:Nat}(ti:TI E.P U sz bytes agg z)(hp:look G p=some (qb c (bt r x)))(hs:(r.sz,r.agg)=(sz,agg))(hc:c=true):
  cE E O G ⟨dst,.load U (.tmp p),ty,pos,after,g⟩ (H r x):=fJ ti (xG hs).1 (xG hs).2 (bF hp hc)
def bR{x:α}{sz:Nat}(hf:bP E.P T i=some (off,sz))(hq:jn r off q get)(hp:look G p=some (bt r x))(h0:(!(Nat.beq sz 0)&&Nat.ble (off+q.sz) r.sz)=true)(_:c=true):cE E O G ⟨dst,.fieldAddr T (.tmp p) i,ty,pos,after,g⟩ (bt q (get x)):=oJ hf hq hp h0
def da(A:look G x=some t)(_:c=true):cE E O G ⟨dst,.move (.tmp x),ty,pos,after,g⟩ t:=gH A
def q7(A:look G x=some (qb c t))(hc:c=true):cE E O G ⟨dst,.move (.tmp x),ty,pos,after,g⟩ t:=bC (bF A hc)
def kA(hu:E.P.underlying st=some (.slice e))(A:look G x=some (qb c (H (eO r) xs)))(hc:c=true):
  cE E O G ⟨dst,.call ⟨.builtin .len,#[.tmp x],#[st]⟩,ty,pos,after,g⟩ (H (rI .i64) (xs.length:Int)):=fN hu (bF A hc)
def sy{b:Bool}(A:look G x=some (qb c (H rB b)))(hc:c=true):cE E O G ⟨dst,.unOp .not xt (.tmp x),ty,pos,after,g⟩ (H rB (!b)):=fV (bF A hc)
end
def bj(h:vA E.N.n aE (look G x)=some t)(k:CG E ah y O ((aE,t)::G)):RG E ops (Exit.then (y.wpIn (fw E.r) 0 E.P ah) ah) [⟨some aE,.assign (.tmp x),ty,pos,after,none⟩] O G:=gE h (bO k)
def cw(h:AT E ah .ret O G):RG E ops (Exit.then (Code.ret.wpIn (fw E.r) 0 E.P ah) ah) [] O G:=bO (wY h)
def be(h:vA E.N.n aE (look G x)=some t)(k:AT E ah .ret O ((aE,t)::G)):RG E ops (Exit.then (Code.ret.wpIn (fw E.r) 0 E.P ah) ah) [⟨some aE,.assign (.tmp x),ty,pos,after,none⟩] O G:=gE h (cw k)
def aT{id:Nat}{z:Code}(h:RG E l.toArray (Exit.then (y.wpIn (fw E.r) 0 E.P (Exit.then (z.wpIn (fw E.r) 0 E.P ah) ah)) (Exit.then (z.wpIn (fw E.r) 0 E.P ah) ah)) l O G):CG E ah (.seq (.seq (.region id l.toArray false) y) z) O G:=aD (aY h)
def aH{id:Nat}(h:vA E.N.n aE (look G x)=some t)(k:RG E ((⟨some aE,.move (.tmp x),ty,pos,after,none⟩::l).toArray) (Exit.then (y.wpIn (fw E.r) 0 E.P ah) ah) l O ((aE,t)::G)):
  CG E ah (.seq (.region id (⟨some aE,.move (.tmp x),ty,pos,after,none⟩::l).toArray false) y) O G:=aY (aX h k)
def eo{α β:Type _}{a:Option α}{f:α->Option β}{R:β}{xs:List Operand}{u:α->Ty}(h:a.bind f=some R)(hc:ak E.P fid=true)(hs: ∀{y},a=some y->cI E.P fid ts (u y))(A:kL E.N G xs ts)(k: ∀y,f y=some R->RG E ops ah l O ((aE,u y)::G))(hd:Nat.blt aE E.N.n=true:=by exact rfl):RG E ops ah (⟨some aE,.call ⟨.value (.func fid),xs.toArray,ats⟩,ty,pos,after,none⟩::l) O G:=
 cq h fun y hy h=>Jl (bn hc (hs hy) A) hd (k y h)
def F8{α β:Type _}{γ:Type}{a:Option α}{f:α->Option β}{R:β}{r:Rp γ}{zs:α->List γ}{xs:List Operand}(h:a.bind f=some R)(hc:ak E.P fid=true)(hs: ∀{y},a=some y->jE E.P fid ts false r T (zs y))(A:kL E.N G xs ts)(k: ∀y,f y=some R-> ∀b cap,RG E ops ah l (gb r T b cap (zs y)::O) ((aE,tV (J b cap (zs y).length))::G))(hd:Nat.blt aE E.N.n=true:=by exact rfl):
  RG E ops ah (⟨some aE,.call ⟨.value (.func fid),xs.toArray,ats⟩,ty,pos,after,none⟩::l) O G:=cq h fun y hy h=>Uo hc (hs hy) A hd (k y h)
def cR{e:α}{id:Nat}(A:xs.drop i=e::tl)(hN:xs.length<=maxLen)(h:vA E.N.n aE (look G a)=some (H (rI .i64) (i:Int)))(k:AT E ah .normal O ((d2,H (rI .i64) ((i+1:Nat):Int))::(aE,H (rI .i64) ((i+1:Nat):Int))::G))(Z:vA E.N.n d2 (look ((aE,H (rI .i64) ((i+1:Nat):Int))::G) b)=some (H (rI .i64) ((i+1:Nat):Int)):=by exact rfl):
  AT E (Exit.inBlock id (Exit.then ((Code.region id' [⟨some aE,.binOp .add xt (.tmp a) (.const (.int .i64 1)) yt,ty,pos,after,none⟩,⟨some d2,.move (.tmp b),ty2,pos2,after2,none⟩].toArray false).wpIn (fw E.r) 0 E.P ah) ah)) .normal O G:=
 bq<|av<|aJ<|zo (dC h).1 (zin (PV A hN) (dC h).2)<|aX Z<|bz k
def WP{e:α}{b2 d3 id:Nat}{ty3:TypeId}{pos3:String}{after3:Array Edge}(A:xs.drop i=e::tl)(hN:xs.length<=maxLen)(h:vA E.N.n aE (look G a)=some (H (rI .i64) (i:Int)))(k:AT E ah .normal O ((d3,H (rI .i64) ((i+1:Nat):Int))::(d2,H (rI .i64) ((i+1:Nat):Int))::(aE,H (rI .i64) (i:Int))::G))(V:vA E.N.n d2 (look ((aE,H (rI .i64) (i:Int))::G) b)=some (H (rI .i64) (i:Int)):=by exact rfl)(Z:vA E.N.n d3 (look ((d2,H (rI .i64) ((i+1:Nat):Int))::(aE,H (rI .i64) (i:Int))::G) b2)=some (H (rI .i64) ((i+1:Nat):Int)):=by exact rfl):
  AT E (Exit.inBlock id (Exit.then ((Code.region id' [⟨some aE,.move (.tmp a),ty,pos,after,none⟩,⟨some d2,.binOp .add xt (.tmp b) (.const (.int .i64 1)) yt,ty2,pos2,after2,none⟩,⟨some d3,.assign (.tmp b2),ty3,pos3,after3,none⟩].toArray false).wpIn (fw E.r) 0 E.P ah) ah)) .normal O G:=
 bq<|av<|aJ<|aX h<|zo (dC V).1 (zin (PV A hN) (dC V).2)<|gE Z<|bz k
section
variable{e:α}{q1 q2 d3 d4 id:Nat}{ty3 ty4 u:TypeId}{pos3 pos4:String}{after3 after4:Array Edge}{z w:Code}
def WQ(i:Nat)(r:Rp α)(xs:List α)(aE d2 d3 d4:Nat)(G:mK):mK:=(d4,H rB (decide ((i:Int)<(xs.length:Int))))::(d3,H (rI .i64) (xs.length:Int))::(d2,H (eO r) xs)::(aE,H (rI .i64) (i:Int))::G
def Zy(hu:E.P.underlying st=some (.slice u))(A:xs.drop i=[])(h:(vA E.N.n aE (look G a),vA E.N.n d2 (look ((aE,H (rI .i64) (i:Int))::G) b))=(some (H (rI .i64) (i:Int)),some (H (eO r) xs)))
    (k:AT E ah .normal O ((d4,H rB (decide ((i:Int)<(xs.length:Int))))::(d3,H (rI .i64) (xs.length:Int))::(d2,H (eO r) xs)::(aE,H (rI .i64) (i:Int))::G))
    (Y:(vA E.N.n d3 (look ((d2,H (eO r) xs)::(aE,H (rI .i64) (i:Int))::G) p),vA E.N.n d4 (look ((d3,H (rI .i64) (xs.length:Int))::(d2,H (eO r) xs)::(aE,H (rI .i64) (i:Int))::G) q1),
      look ((d3,H (rI .i64) (xs.length:Int))::(d2,H (eO r) xs)::(aE,H (rI .i64) (i:Int))::G) q2,look (WQ i r xs aE d2 d3 d4 G) c)=(some (H (eO r) xs),some (H (rI .i64) (i:Int)),some (H (rI .i64) (xs.length:Int)),some (H rB (decide ((i:Int)<(xs.length:Int))))):=by exact rfl):
    LG E (Exit.inBlock id ah) (.seq (.seq (.region id' [⟨some aE,.move (.tmp a),ty,pos,after,none⟩,⟨some d2,.move (.tmp b),ty2,pos2,after2,none⟩,⟨some d3,.call ⟨.builtin .len,#[.tmp p],#[st]⟩,ty3,pos3,after3,none⟩,⟨some d4,.binOp .lss xt (.tmp q1) (.tmp q2) yt,ty4,pos4,after4,none⟩].toArray false) (.cond (.tmp c) z (.exit id))) w) O G:=
  have h' :=xG h;have e1:=xG Y;have e2:=xG e1.2;have e3:=xG e2.2
  dX<|aD<|aY<|aX h'.1<|aX h'.2<|bW hu e1.1<|zo (dC e2.1).1 (zlt (dC e2.1).2 e3.1)<|bO<|qB (M e3.2) (TM A)<|eY<|aI (aI (cW k))
def Zx(hu:E.P.underlying st=some (.slice u))(A:xs.drop i=e::tl)(h:(vA E.N.n aE (look G a),vA E.N.n d2 (look ((aE,H (rI .i64) (i:Int))::G) b))=(some (H (rI .i64) (i:Int)),some (H (eO r) xs)))
    (k:CG E (Exit.then (zA E.r E.P (.seq (.seq (.region id' [⟨some aE,.move (.tmp a),ty,pos,after,none⟩,⟨some d2,.move (.tmp b),ty2,pos2,after2,none⟩,⟨some d3,.call ⟨.builtin .len,#[.tmp p],#[st]⟩,ty3,pos3,after3,none⟩,⟨some d4,.binOp .lss xt (.tmp q1) (.tmp q2) yt,ty4,pos4,after4,none⟩].toArray false) (.cond (.tmp c) .skip z)) w) ah) ah) w O
      ((d4,H rB (decide ((i:Int)<(xs.length:Int))))::(d3,H (rI .i64) (xs.length:Int))::(d2,H (eO r) xs)::(aE,H (rI .i64) (i:Int))::G))
    (Y:(vA E.N.n d3 (look ((d2,H (eO r) xs)::(aE,H (rI .i64) (i:Int))::G) p),vA E.N.n d4 (look ((d3,H (rI .i64) (xs.length:Int))::(d2,H (eO r) xs)::(aE,H (rI .i64) (i:Int))::G) q1),
      look ((d3,H (rI .i64) (xs.length:Int))::(d2,H (eO r) xs)::(aE,H (rI .i64) (i:Int))::G) q2,look (WQ i r xs aE d2 d3 d4 G) c)=(some (H (eO r) xs),some (H (rI .i64) (i:Int)),some (H (rI .i64) (xs.length:Int)),some (H rB (decide ((i:Int)<(xs.length:Int))))):=by exact rfl):
    LG E ah (.seq (.seq (.region id' [⟨some aE,.move (.tmp a),ty,pos,after,none⟩,⟨some d2,.move (.tmp b),ty2,pos2,after2,none⟩,⟨some d3,.call ⟨.builtin .len,#[.tmp p],#[st]⟩,ty3,pos3,after3,none⟩,⟨some d4,.binOp .lss xt (.tmp q1) (.tmp q2) yt,ty4,pos4,after4,none⟩].toArray false) (.cond (.tmp c) .skip z)) w) O G:=
  have h' :=xG h;have e1:=xG Y;have e2:=xG e1.2;have e3:=xG e2.2
  dX<|aD<|aY<|aX h'.1<|aX h'.2<|bW hu e1.1<|zo (dC e2.1).1 (zlt (dC e2.1).2 e3.1)<|bO<|qA (M e3.2) (PU A)<|gC k
end
end
variable{P:Program}
section
variable{l:List Oper}
def xa(r:Rp α)(k:RG E ops ah l O ((aE,H (eO r) [])::G))(hd:Nat.blt aE E.N.n=true:=by exact rfl):RG E ops ah (⟨some aE,.assign (.const (.slice none 0 0)),ty,pos,after,none⟩::l) O G:=zo hd (cg Rn) k
def bY{β:Type _}{X hb:Option β}{r:β}{x:Code}{b:Bool}(h:(if b=true then X else hb)=some r)(Y:look G c=some (H rB b))(A:X=some r->CG E ah x O G)(hy:hb=some r->CG E ah y O G):
  RG E ops (Exit.then ((Code.cond (.tmp c) x y).wpIn (fw E.r) 0 E.P ah) ah) [] O G:=bO (mA h Y A hy)
def bZ{id:Nat}{ax:Act->World->Prop}(h:AT E ah .ret O G):AT E (Exit.inBlock id (Exit.then ax ah)) .ret O G:=xF (af h)
def dJ{n:Int}(k:AT E ah .ret O ((aE,H (rI j) n)::G))(hd:Nat.blt aE E.N.n=true:=by exact rfl):RG E ops (Exit.then (Code.ret.wpIn (fw E.r) 0 E.P ah) ah) [⟨some aE,.assign (.const (.int j n)),ty,pos,after,none⟩] O G:=zo hd zai (cw k)
def dm{f:FuncId}{fn:Func}{c:Code}{t:Ty}{N:Nat}(hf:P.funcs[f]? =some fn)(Y:(fn.body,fn.ntmps,Nat.ble ts.length fn.ntmps)=(some c,N,true))(h: ∀{w0 S0},CG ⟨P,⟨N,[]⟩,wm,w0,S0,none⟩ (bodyPost P fn (N1 ⟨P,⟨N,[]⟩,wm,w0,S0,none⟩ t)) c [] (Bb 0 ts)):cI P f ts t:=by
 obtain⟨V,Z⟩:=xG Y
 obtain⟨Z,h3⟩:=xG Z
 subst Z
 exact cI.of hf V rfl h3 fun _ _=>h
section
def Zz{G:mK}{t:Ty}:look ((k,t)::G) k=some t:=by simp [look]
def f8{u:Ty}(h:ts[i]? =some u)(hu:look G x=some u)(Y:([(⟨x,u,none⟩:Nd)].all (qP l ⟨dst,.move (.tmp x),ty,pos,after,g⟩ i)&&fx i ⟨dst,.move (.tmp x),ty,pos,after,g⟩&&g.isNone)=true:=by exact rfl):
  ∃(needs:List Nd) (t:Ty),ts[i]? =some t/\uF G ts needs/\(needs.all (qP l ⟨dst,.move (.tmp x),ty,pos,after,g⟩ i))=true/\fx i ⟨dst,.move (.tmp x),ty,pos,after,g⟩=true/\bo E O l.toArray (kQ needs) ⟨dst,.move (.tmp x),ty,pos,after,g⟩ t:=
 ug x h hu (gH Zz) Y
def jX{v:α}{sz:Nat}(j:Nat)(ti:TI E.P U sz bytes agg z)(h:ts[i]? =some (H r v))(hu:ts[j]? =some (bt r v))(hs:(r.sz,r.agg)=(sz,agg):=by exact rfl)(Y:([(⟨x,bt r v,some j⟩:Nd)].all (qP l ⟨dst,.load U (.tmp x),ty,pos,after,g⟩ i)&&fx i ⟨dst,.load U (.tmp x),ty,pos,after,g⟩&&g.isNone)=true:=by exact rfl):
  ∃(needs:List Nd) (t:Ty),ts[i]? =some t/\uF G ts needs/\(needs.all (qP l ⟨dst,.load U (.tmp x),ty,pos,after,g⟩ i))=true/\fx i ⟨dst,.load U (.tmp x),ty,pos,after,g⟩=true/\bo E O l.toArray (kQ needs) ⟨dst,.load U (.tmp x),ty,pos,after,g⟩ t:=
 ga x j h hu (qN ti Zz hs) Y
end
end

structure RW{κ:Type} [DecidableEq κ](P:Program)(kt:TypeId)(kv:κ->Value):Prop where
 chk: ∀e w k,(Instr.checkKey e 10000 kt (kv k)).run P w= .ok () w
 eql: ∀w a b,(Op.equal kt (kv a) (kv b)).run P w= .ok (decide (a=b)) w
 wide:(match P.underlying kt with|some (.array _ _)|some (.struct _)=>true|_=>false)=true
 same: ∀k,Instr.sameBits 10000 (kv k) (kv k)=true
 inj: ∀a b,kv a=kv b->a=b
def Vc(p:Int×Int):Value:= .agg #[.int .i64 p.1,.int .i64 p.2]
def k2(l:List Int):Int×Int:=(l.getD 0 0,l.getD 1 0)
variable{kt:TypeId}
def Z3{kt el sz:Nat}(h:P.underlying kt=some (.array 2 el))(he:P.underlying el=some (.int .i64))(ti:TI P el sz bytes agg z)(hsz:Nat.beq sz 1=true)(hq:MD P kt (qr (rI .i64) 2)):RW P kt Vc where
 chk:=fun e w k=>by
  obtain⟨i,zv,hi,hs,_⟩:=ti.get
  have V:sz=1:=qL hsz
  have ha:(isAgg el).run P w= .ok false w:=by
   simp [isAgg,ka he,Result.andThen]
  have h3: ∀(j:Nat) (x:Int) (cs:Array Value),cs[j]? =some (.int .i64 x)->(part el cs (j*i.size)).run P w= .ok (.int .i64 x) w:=fun j x cs hj=>by
   simp [part,ha,Result.andThen,hs,V,hj]
  have h4: ∀x:Int,(Instr.checkKey e 9999 el (.int .i64 x)).run P w= .ok () w:=fun x=>by
   show(Instr.checkKey e (9998+1) el (.int .i64 x)).run P w= .ok () w
   unfold Instr.checkKey
   simp only [sq,ka he,tJ]
   rfl
  have e1:=h3 0 k.1 #[.int .i64 k.1,.int .i64 k.2] rfl
  have e2:=h3 1 k.2 #[.int .i64 k.1,.int .i64 k.2] rfl
  show(Instr.checkKey e (9999+1) kt (Vc k)).run P w= .ok () w
  unfold Instr.checkKey
  simp only [Vc,sq,ka h,tJ,Std.Legacy.Range.forIn_eq_forIn_range',Std.Legacy.Range.size,Nat.sub_zero,Nat.add_sub_cancel,Nat.div_one,List.range'_succ,List.range'_zero,List.forIn_cons,List.forIn_nil,sizeOf,typeInfo,hi,EB,Nat.zero_mul,sB,Nat.one_mul]
  simp only [Nat.zero_mul,Nat.one_mul]at e1 e2
  simp [e1,e2,h4,Result.andThen,hi]
 eql:=fun w a b=>by
  have:=hq.run (fun _=>none) [.int .i64 a.1,.int .i64 a.2] [.int .i64 b.1,.int .i64 b.2] [a.1,a.2] [b.1,b.2] 9980 w ⟨rfl,[_],[_],rfl,rfl,[_],[],rfl,rfl,rfl⟩ ⟨rfl,[_],[_],rfl,rfl,[_],[],rfl,rfl,rfl⟩
  have e1:decide (([a.1,a.2]:List Int)=[b.1,b.2])=decide (a=b):=by
   obtain⟨a1,a2⟩:=a;obtain⟨b1,b2⟩:=b;simp
  rw [e1]at this
  show(Op.equalIn (9980+20) kt (Vc a) (Vc b)).run P w=_
  exact this
 wide:=by rw [h]
 same:=fun k=>by
  show Instr.sameBits (9999+1) (Vc k) (Vc k)=true
  unfold Instr.sameBits Vc
  simp only [List.zip_cons_cons,List.zip_nil_left,tI,List.all_nil]
  unfold Instr.sameBits
  simp
 inj:=fun a b h=>by
  obtain⟨a1,a2⟩:=a;obtain⟨b1,b2⟩:=b
  simpa [Vc] using h
variable{S:SH}{kv:κ->Value}
section
variable [DecidableEq κ]{k:κ}
def NO{w:World}{S:SH}{k:κ}(hk:RW P kt kv): ∀{es:List MapEntry} {m:List (κ×β)} (i:Nat),wD γ kv S es m->
  ∃u,(Instr.findAsking kt (kv k) es i).run P w= .ok u w/\((u=none/\(∀x∈es,x.key≠kv k)/\ij m k=none)\/ ∃(j:Nat) (e:MapEntry) (y:β),u=some (i+j,e.val)/\es[j]? =some e/\e.key=kv k/\ij m k=some y/\(γ y).p S e.val)
 |[],[],i,_=>⟨none,by simp [Instr.findAsking],.inl ⟨rfl,fun x A=>(by cases A),rfl⟩⟩
 |e::es,q::m,i,⟨V,Z,h3,h4⟩=>by
  by_cases hq:k=q.1
  ·subst hq
   refine⟨some (i,e.val),?_,.inr ⟨0,e,q.2,rfl,rfl,V,by unfold ij;rw [cz rfl],Z⟩⟩
   unfold Instr.findAsking
   simp [V,hk.eql,Result.andThen]
  ·obtain⟨u,g1,g2⟩:=NO hk (k:=k) (w:=w) (i+1) h4
   refine⟨u,?_,?_⟩
   ·unfold Instr.findAsking
    simp [V,hk.eql,hq,Result.andThen,g1]
   ·have hm:ij (q::m) k=ij m k:=by conv=>lhs;unfold ij;rw [cr (fun e=>hq e.symm)]
    rw [hm]
    rcases g2 with⟨e1,e2,e3⟩|⟨j,e',y,e1,e2,e3,e4,e5⟩
    ·refine .inl ⟨e1,fun x A=>?_,e3⟩
     rcases gw.1 A with rfl|A
     ·rw [V];exact fun e=>hq (hk.inj _ _ e).symm
     ·exact e2 x A
    ·exact .inr ⟨j+1,e',y,by rw [e1];congr 2;omega,by simpa using e2,e3,e4,e5⟩
def Pm{q k:κ}{y:β}(hk:q≠k): ∀(m:List (κ×β)),(∀p∈m,p.1≠q)-> ∀p∈kq m k y,p.1≠q:=by
 intro m
 induction m with
 |nil=>intro _ p hp;rw [Bn.1 hp];exact fun e=>hk e.symm
 |cons p0 m ih=>
  intro hm p hp
  unfold kq at hp
  split at hp
  ·rcases gw.1 hp with rfl|hp
   ·exact fun e=>hk e.symm
   ·exact hm p (oD _ hp)
  ·rcases gw.1 hp with rfl|hp
   ·exact hm _ (oa ..)
   ·exact ih (fun p hp=>hm p (oD _ hp)) p hp
def Hk(hinj: ∀a b,kv a=kv b->a=b){y:β}{v:Value}{born:Nat}(hv:(γ y).p S v): ∀{es:List MapEntry} {m:List (κ×β)},wD γ kv S es m->(∀x∈es,x.key≠kv k)->wD γ kv S (es++[⟨kv k,v,born⟩]) (kq m k y)
 |[],[],_,_=>⟨rfl,hv,fun _ h=>(by cases h),trivial⟩
 |e::es,q::m,⟨V,Z,h3,h4⟩,hn=>by
  have hq:q.1≠k:=fun e' =>hn e (oa ..) (by rw [V,e'])
  have hm:kq (q::m) k y=q::kq m k y:=by conv=>lhs;unfold kq;rw [cr hq]
  rw [hm]
  exact⟨V,Z,Pm hq m h3,Hk hinj hv h4 fun x A=>hn x (oD _ A)⟩
def Jc(hinj: ∀a b,kv a=kv b->a=b){y:β}{v:Value}(hv:(γ y).p S v): ∀{es:List MapEntry} {m:List (κ×β)},wD γ kv S es m-> ∀j e,es[j]? =some e->e.key=kv k->wD γ kv S (es.modify j fun e=>{e with key:=kv k,val:=v}) (kq m k y)
 |[],[],_,j,e,he,_=>by cases he
 |e0::es,q::m,⟨V,Z,h3,h4⟩,j,e,he,hek=>by
  cases j with
  |zero=>
   have he' :e0=e:=ro he
   subst he'
   have hq:q.1=k:=hinj _ _ (by rw [<-V,hek])
   have hm:kq (q::m) k y=(k,y)::m:=by conv=>lhs;unfold kq;rw [cz hq]
   rw [hm,List.modify_zero_cons]
   exact⟨rfl,hv,fun p hp=>by rw [<-hq];exact h3 p hp,h4⟩
  |succ j=>
   have he' :es[j]? =some e:=by simpa using he
   obtain⟨y',hy'⟩: ∃q' ∈m,q'.1=k:=by
    have hmem: ∀{es:List MapEntry} {m:List (κ×β)},wD γ kv S es m-> ∀(j:Nat) (e:MapEntry),es[j]? =some e->e.key=kv k-> ∃q' ∈m,q'.1=k:=by
     intro es
     induction es with
     |nil=>intro m _ j e he _;simp at he
     |cons e1 es ih=>
      intro m hm j e he hek
      cases m with
      |nil=>exact hm.elim
      |cons q1 m=>
       obtain⟨g1,_,_,g4⟩:=hm
       cases j with
       |zero=>
        have e2:e1=e:=ro he
        subst e2
        exact⟨q1,oa ..,hinj _ _ (by rw [<-g1,hek])⟩
       |succ j=>
        obtain⟨q',a1,a2⟩:=ih g4 j e (by simpa using he) hek
        exact⟨q',oD _ a1,a2⟩
    exact hmem h4 j e he' hek
   have hq:q.1≠k:=fun e' =>h3 y' hy'.1 (by rw [hy'.2,e'])
   have hm:kq (q::m) k y=q::kq m k y:=by conv=>lhs;unfold kq;rw [cr hq]
   rw [hm,EM]
   exact⟨V,Z,Pm hq m h3,Jc hinj hv h4 j e he' hek⟩
def eQ(γ:β->Ty)(kv:κ->Value)(b:Nat)(m:List (κ×β)):OE where
 fp:=fun j=>j=b
 p:=fun w S=>S b=none/\ ∃es clock,w.heap[b]? =some (.map es clock)/\wD γ kv S es.toList m
 here:=by
  intro w S ⟨_,es,clock,h3,_⟩ j hj
  subst hj
  exact(Bq.1 h3).1
 kept:=by
  intro C w w' S S' ⟨V,es,clock,h3,h4⟩ k hC
  have hlt:=(Bq.1 h3).1
  exact⟨by rw [k.old b hlt (hC b rfl)];exact V,es,clock,by rw [k.heap b hlt (hC b rfl)];exact h3,ym k.keep h4⟩
end
variable{et:TypeId}{rest:List Oper}
section
variable [DecidableEq κ]{k:κ}{x i:Operand}{dst:Option Nat}
def Mq(γ:β->Ty)(kv:κ->Value)(hd:Nat.blt aE E.N.n=true)(k: ∀b,RG E ops ah rest (eQ γ kv b []::O) ((aE,tV (aG b))::G)):
  RG E ops ah (⟨some aE,.makeMap t none,ty,pos,after,none⟩::rest) O G:= .of rfl fun a w S st=>by
 obtain⟨he,hs',hno⟩:=lH (w:=w) (.map #[] 0) st.sat
 have hrun:(execOp a.eval ⟨some aE,.makeMap t none,ty,pos,after,none⟩).run E.P w= .ok (.value (aG w.heap.size)) (w.alloc (.map #[] 0)):=by
  simp [execOp,Instr.makeMap,aG]
 refine⟨fun c h=>(by cases h),?_⟩
 rw [hrun]
 exact k w.heap.size _ _ S ⟨st.ext.step0 he,hs',uW st.own he ⟨hno,#[],0,AS w _,trivial⟩ (fun b Y=>Ey Y.symm) st.base_le,st.facts.put hd rfl⟩
def WK{y:β}(hm:E.P.underlying t=some (.map kt et))(hk:RW E.P kt kv)(A:bf E.N G x (tV (aG b)))(hi:yT E.N G i (kv k))(hv:bf E.N G v (γ y))
  (h:RG E ops ah rest (eQ γ kv b (kq m k y)::O) G):RG E ops ah (⟨none,.mapUpdate t x i v,ty,pos,after,none⟩::rest) (eQ γ kv b m::O) G:= .of rfl fun a w S st=>by
 have V:a.eval x=aG b:=A S a st.facts
 have Z:a.eval i=kv k:=hi S a st.facts
 have h3:(γ y).p S (a.eval v):=hv S a st.facts
 obtain⟨⟨hno,es,clock,h5,h6⟩,_⟩:=st.own.1
 have hlt:=(Bq.1 h5).1
 obtain⟨u,g1,g2⟩:=NO hk (k:=k) (w:=w) 0 h6
 have hfk:(Instr.findKey kt (kv k) es.toList).run E.P w= .ok u w:=by rw [run_findKey_eq w hk.wide];exact g1
 obtain⟨X,hrun,hX⟩: ∃X:Obj,(Instr.mapUpdate t (aG b) (kv k) (a.eval v)).run E.P w= .ok () {w with heap:=w.heap.setIfInBounds b X}/\ ∃es' cl',X= .map es' cl' /\wD γ kv S es'.toList (kq m k y):=by
  rcases g2 with⟨rfl,g3,g4⟩|⟨j,e,y',rfl,g3,g4,_,_⟩
  ·refine⟨.map (es.push ⟨kv k,a.eval v,clock⟩) (clock+1),?_,_,_,rfl,by rw [Array.toList_push];exact Hk hk.inj h3 h6 g3⟩
   simp [Instr.mapUpdate,aG,ka hm,KB h5,hk.chk,hfk,Result.andThen,OJ _ h5]
  ·refine⟨.map (es.modify j fun e=>{e with key:=kv k,val:=a.eval v}) clock,?_,_,_,rfl,by rw [Array.toList_modify];exact Jc hk.inj h3 h6 j e g3 g4⟩
   have hgd:((es[j]?).map (·.key)).getD (kv k)=kv k:=by
    rw [<-OF,g3];exact g4
   simp only [sB]at hfk
   simp [Instr.mapUpdate,aG,ka hm,KB h5,hk.chk,hfk,Result.andThen,hgd,Instr.keyThatStays,hk.same,OJ _ h5]
 have hrun' :(execOp a.eval ⟨none,.mapUpdate t x i v,ty,pos,after,none⟩).run E.P w= .ok .skip {w with heap:=w.heap.setIfInBounds b X}:=by simp [execOp,V,Z,hrun]
 obtain⟨es',cl',rfl,h7⟩:=hX
 refine⟨fun c h=>(by cases h),?_⟩
 rw [hrun']
 obtain⟨q1,q2⟩:=MapKept.heap_set (o' := .map es' cl') h5
 obtain⟨f1,f2,f3⟩:=ne (O:=O) st.sat (w' :={w with heap:=w.heap.setIfInBounds b (.map es' cl')}) (eQ γ kv b m) (eQ γ kv b (kq m k y)) st.own (fun _=>vl) (fun _=>vl) ⟨rfl,rfl,rfl,by simp,gc _⟩ (fun j hj=>q2 j hj) ⟨hno,es',cl',q1,h7⟩ hno
 exact h _ _ S ⟨st.ext.step f1 (fun c hc=>st.own.1.2 c hc),f2,f3,st.facts⟩
end

section
variable [DecidableEq κ]{k:κ}{x i:Operand}{dst:Option Nat}
end
variable{os:Array Obj}
section
variable [DecidableEq κ]{h1:MV β}{os:List (Option Nat×Nat)}{h:Option κ}{x:Operand}{dst:Option Nat}
end
section
variable{e:Exit}
end


structure RM{α β:Type}(ax:Nat)(F:Rp α->Rp β):Prop where
 sz: ∀r r',r.sz=ax->r'.sz=ax->(F r).sz=(F r').sz
 mono: ∀r r',r.sz=ax->r'.sz=ax->(∀S cs x,r.rc S cs x->r'.rc S cs x)-> ∀S cs x,(F r).rc S cs x->(F r').rc S cs x
 cont: ∀(R:Nat->Rp α),(∀n,(R n).sz=ax)->(∀n S cs x,(R n).rc S cs x->(R (n+1)).rc S cs x)-> ∀r,r.sz=ax->(∀S cs x,r.rc S cs x-> ∃n,(R n).rc S cs x)-> ∀S cs x,(F r).rc S cs x-> ∃n,∀m,n<=m->(F (R m)).rc S cs x
def RM.map{γ:Type}{ax:Nat}{F:Rp α->Rp β}(f:γ->β)(h:RM ax F):RM ax (fun r=>kp (F r) f):=
 ⟨fun r r' V Z=>h.sz r r' V Z,fun r r' V Z h3 S cs x q=>h.mono r r' V Z h3 S cs (f x) q,fun R hR up r hr h3 S cs x q=>h.cont R hR up r hr h3 S cs (f x) q⟩

section
variable{c:Code}{e:Exit}
end

variable{ys:List α}
section
def O9{q:Rp α}(hq:q.sz=1){cs:List Value}{m:Nat}(h:uh q S cs xs)(hm:m<=xs.length):uh q S (cs.take m) (xs.take m)/\uh q S (cs.drop m) (xs.drop m):=by
 have:=rb (xs:=xs.take m) (ys:=xs.drop m) (by rw [uH];exact h)
 rwa [Bk,Cf hm,hq,FT]at this
def wF{α:Type}(xs ys:List α):List α:=ys.take xs.length++xs.drop (min ys.length xs.length)
def yp:(wF xs ys).length=xs.length:=by
 unfold wF
 simp
 omega
end
variable{mm:Bool}
section
variable{c:Code}
def Qy{lo hi:Int}(hs:dN xs lo hi=some ys)(h:AQ mm r U l cap xs w S)(hS:mT w S): ∃S1,mT w S1/\(H (eO r) ys).p S1 (o0 r.sz l cap lo.toNat ys.length):=by
 obtain⟨S1,_,k2,hd⟩:=abU h hS
 refine⟨S1,k2,?_⟩
 obtain⟨l',m,rfl,rfl,h7,h8,rfl⟩:=gN hs
 obtain⟨ad,c,V,Z,h3,h4⟩:=mY.1 hd
 have hlen:((xs.take m).drop l').length=m-l' :=by simp;omega
 cases l with
 |none=>
  obtain⟨cells,g1,_⟩:=h
  have A:xs=[]:=za g1.1
  subst A
  have e:((([]:List α).take m).drop l')=[]:=by simp
  rw [e]
  exact Cu
 |some b=>
  have e1:Value.slice (some ⟨b,0,none⟩) xs.length cap= .slice ad xs.length c:=V
  injection e1 with e2 _ e3
  subst e2
  subst e3
  have h5:=BA h4 h7 h8 Z
  refine mY.2 ⟨_,cap-l',?_,by omega,by omega,h5⟩
  unfold o0
  simp only [Cm,hlen,Il,jD,sB]
  split<;>rfl
def US{sz:Nat}(ti:TI P T sz bytes agg z):(P.info? T).map (·.size)=some sz:=by
 obtain⟨i,_,hi,hs,_⟩:=ti.get
 simp [hi,hs]
def QW{α:Type}:Rp α where
 sz:=1
 agg:=false
 rc:=fun _ cs _=> ∃v,cs=[v]/\v.oneCell' =true
 mono:=fun _ h=>h
 len:=fun⟨v,h,_⟩=>by rw [h];rfl
 one:=fun⟨v,h,k⟩ c hc=>by rw [h]at hc;simp at hc;subst hc;exact k
 sc:=fun _=>rfl
def Km{l:List α}{e:α}(h:xs.drop i=e::l):(i:Int)<(xs.length:Int):=by
 have:=congrArg List.length h
 simp at this
 omega
def tv{n:Nat}{x ix:Operand}{y:α}{k:IntKind}{i:Int}{sz:Nat}(M:E.P.underlying t=some (.slice e))(ti:TI E.P e sz bytes agg z)(hm:mj mm r U l cap xs∈O)(A:bf E.N G x (tV (J l cap n)))(hi:bf E.N G ix (H (rI k) i))(hy:fB xs i=some y)(hlt:i<(n:Int)):
  cE E O G ⟨dst,.indexAddr t x ix,ty,pos,after,g⟩ (tV (dS l (i.toNat*sz+0))):=
 .of_pure fun a w S _ ho hf=>by
  have V:a.eval x=J l cap n:=A S a hf
  have h3:a.eval ix= .int k i:=ge.1 (hi S a hf)
  obtain⟨h0,hy'⟩:=kG hy
  obtain⟨b,cur,rfl,_⟩:=rM (ho.mem _ hm).1 hy'
  refine⟨_,?_,rfl⟩
  have hc:0<=i/\i<(n:Int):=⟨h0,hlt⟩
  simp [execOp,V,h3,J,Instr.indexAt,asIntOf,ka M,hc,ti.sizeOf,jD,dS,an]
end

def Hq{zs:List α}(h:wF xs ys=zs):zs.length=xs.length:=by rw [<-h,yp]

def lg(p:cS×cS):Value:= .agg #[ez p.1,ez p.2]
def abV{kt el sz:Nat}{l:Array Field} [DecidableEq α]{mk:cS×cS->α}(h:P.underlying kt=some (.struct l))(hl:l.toList.map (fun f=>(f.type,f.offset))=[(el,0),(el,1)])(he:P.underlying el=some .string)(ti:TI P el sz bytes agg z)(hsz:Nat.beq sz 1=true)(hag:r.agg=true)(hr: ∀p:cS×cS,r.rc (fun _=>none) [ez p.1,ez p.2] (mk p))(hinj: ∀p q,mk p=mk q->p=q)(hq:MD P kt r):RW P kt lg where
 chk:=fun e w k=>by
  obtain⟨i,zv,hi,hs,_⟩:=ti.get
  have V:sz=1:=qL hsz
  have ha:(isAgg el).run P w= .ok false w:=by
   simp [isAgg,ka he,Result.andThen]
  have h3: ∀(j:Nat) (x:cS) (cs:Array Value),cs[j]? =some (ez x)->(part el cs j).run P w= .ok (ez x) w:=fun j x cs hj=>by
   simp [part,ha,Result.andThen,hj]
  have h4: ∀x:cS,(Instr.checkKey e 9999 el (ez x)).run P w= .ok () w:=fun x=>by
   show(Instr.checkKey e (9998+1) el (ez x)).run P w= .ok () w
   unfold Instr.checkKey
   simp only [sq,ka he,tJ]
   rfl
  have e1:=h3 0 k.1 #[ez k.1,ez k.2] rfl
  have e2:=h3 1 k.2 #[ez k.1,ez k.2] rfl
  obtain⟨l0,rfl⟩: ∃l0:List Field,l=l0.toArray:=⟨l.toList,by simp⟩
  have hlen:l0.length=2:=by simpa using congrArg List.length hl
  obtain⟨f0,f1,rfl⟩: ∃f0 f1,l0=[f0,f1]:=by
   match l0,hlen with
   |[a,b],_=>exact⟨a,b,rfl⟩
  simp only [uG,Ez,List.cons.injEq,Prod.mk.injEq,and_true]at hl
  obtain⟨⟨a0,b0⟩,⟨a1,b1⟩⟩:=hl
  show(Instr.checkKey e (9999+1) kt (lg k)).run P w= .ok () w
  unfold Instr.checkKey
  simp only [lg,sq,ka h,tJ]
  by_cases n0:f0.name= "_" <;>by_cases n1:f1.name= "_" <;>simp [n0,n1,a0,a1,b0,b1,e1,e2,h4,Result.andThen]
 eql:=fun w a b=>by
  have:=hq.run (fun _=>none) _ _ _ _ 9980 w (hr a) (hr b)
  have e1:decide (mk a=mk b)=decide (a=b):=AG.2 ⟨fun e=>hinj a b e,fun e=>by rw [e]⟩
  rw [e1]at this
  have hv: ∀p:cS×cS,r.val [ez p.1,ez p.2]=lg p:=fun p=>by simp [Rp.val,hag,lg]
  rw [hv,hv]at this
  show(Op.equalIn (9980+20) kt (lg a) (lg b)).run P w=_
  exact this
 wide:=by rw [h]
 same:=fun k=>by
  show Instr.sameBits (9999+1) (lg k) (lg k)=true
  unfold Instr.sameBits lg ez
  simp only [List.zip_cons_cons,List.zip_nil_left,tI,List.all_nil]
  unfold Instr.sameBits
  simp
  have Y: ∀l:ByteArray,(l==l)=true:=fun l=>by
   cases l with
   |mk aE=>exact(AV aE:(aE==aE)=true)
  exact⟨Y _,Y _⟩
 inj:=fun a b h=>by
  obtain⟨a1,a2⟩:=a;obtain⟨b1,b2⟩:=b
  simpa [lg,ez] using h
section
variable [DecidableEq κ]{k:κ}{x i:Operand}{dst:Option Nat}
def S5{x:Operand}{y:α}{p:cS×cS}(hag:r.agg=true)(hr: ∀S cs,r.rc S cs y->cs=[ez p.1,ez p.2])(h:bf N G x (H r y)):yT N G x (lg p):=fun S a hf=>by
 obtain⟨cs,e,V⟩:=h S a hf
 rw [e,hr S cs V]
 simp [Rp.val,hag,lg]
def Ly{z:β}{zv:Value}(hm:E.P.underlying t=some (.map kt et))(hk:RW E.P kt kv)(hz:ZV E.P et zv)(hzt: ∀S,(γ z).p S zv)(hmem:eQ γ kv b m∈O)(A:bf E.N G x (tV (aG b)))(hi:yT E.N G i (kv k)):
  cE E O G ⟨dst,.lookup t x i true,ty,pos,after,g⟩ (tT [γ ((ij m k).getD z),H rB (ij m k).isSome]):= .of_pure fun a w S hs ho hf=>by
 obtain⟨⟨_,es,clock,h3,h4⟩,_⟩:=dI.mem ho _ hmem
 have V:a.eval x=aG b:=A S a hf
 have Z:a.eval i=kv k:=hi S a hf
 obtain⟨u,g1,g2⟩:=NO hk (k:=k) (w:=w) 0 h4
 have hfk:(Instr.findKey kt (kv k) es.toList).run E.P w= .ok u w:=by rw [run_findKey_eq w hk.wide];exact g1
 rcases g2 with⟨rfl,_,g3⟩|⟨j,e,y,rfl,_,_,g3,g4⟩
 ·refine⟨.tuple #[zv,.bool false],?_,_,rfl,by rw [g3];exact hzt S,by rw [g3];exact jZ.2 rfl,trivial⟩
  simp [execOp,V,Z,Instr.lookup,aG,ka hm,KB h3,hk.chk,hfk,hz.run,Result.andThen]
 ·refine⟨.tuple #[e.val,.bool true],?_,_,rfl,by rw [g3];exact g4,by rw [g3];exact jZ.2 rfl,trivial⟩
  simp [execOp,V,Z,Instr.lookup,aG,ka hm,KB h3,hk.chk,hfk,Result.andThen]
def Rz{os:List (Option Nat×Nat)}{m:List (κ×List α)}(hm:E.P.underlying t=some (.map kt et))(hk:Bh E.P kt kv)(hz:ZV E.P et (.slice none 0 0))(A:bf E.N G x (tV (aG b)))(hi:yT E.N G i (kv k)):
  EffOK E (ci (Xa r T) kv b none os m::O) G ⟨some aE,.lookup t x i false,ty,pos,after,g⟩ (fun j=>K r T (j.h 0).1 (j.h 0).2 ((ij m k).getD [])::ci (Xa r T) kv b (some k) j.os m::O) (fun j=>tO r (j.h 0).1 (j.h 0).2 ((ij m k).getD [])):=fun a w S hs ho hf Y=>by
 obtain⟨⟨⟨hno,hnb,es,clock,h3,h4,hst⟩,hfp⟩,hap,hO⟩:=ho
 obtain⟨q,hq,hdk,hinj⟩:=hk
 have V:a.eval x=aG b:=A S a hf
 have Z:a.eval i=kv k:=hi S a hf
 obtain⟨os',p1,p2,h5⟩:=qZ hdk hinj (k:=k) 0 h4
 have hn: ∀o∈os',o.1≠some b:=fun o ho=>by
  rcases p1 o ho with h|h
  ·exact hnb o h
  ·rw [h];exact fun e=>by cases e
 have hfp' : ∀j,(j=b\/ ∃o∈os',o.1=some j)->(j=b\/ ∃o∈os,o.1=some j):=fun j hj=>hj.imp id fun⟨o,ho,e⟩=>by
  rcases p1 o ho with h|h
  ·exact⟨o,h,e⟩
  ·rw [h]at e;cases e
 rcases h5 with⟨g1,g2⟩|⟨y,o,e,j,g1,g2,g3,g4,g5⟩
 ·have hrun:(execOp a.eval ⟨some aE,.lookup t x i false,ty,pos,after,g⟩).run E.P w= .ok (.value (.slice none 0 0)) w:=by simp [execOp,V,Z,lD hm hq (hdk k) h3 hz g2]
  refine⟨fun c h=>(by cases h),?_⟩
  rw [hrun]
  exact⟨_,S,{h:=fun _=>(none,0),os:=os' },rfl,lr.refl _ _ _,hs,⟨⟨⟨[],⟨by rw [g1];rfl,rfl⟩,by rw [g1];rfl,fun b Y=>(by cases Y)⟩,fun j hj=>(by cases hj)⟩,fun f _ j hj=>(by cases hj),⟨⟨hno,hn,es,clock,h3,p2,hst⟩,fun j hj=>hfp j (hfp' j hj)⟩,fun f hf j hj=>hap f hf j (hfp' j hj),hO⟩,
   by rw [g1];rfl,by rw [g1];exact Cu⟩
 ·have hrun:(execOp a.eval ⟨some aE,.lookup t x i false,ty,pos,after,g⟩).run E.P w= .ok (.value e.val) w:=by simp [execOp,V,Z,lD hm hq (hdk k) h3 hz g4]
  refine⟨fun c h=>(by cases h),?_⟩
  rw [hrun]
  have hy:(ij m k).getD []=y:=by rw [g1];rfl
  refine⟨_,S,{h:=fun _=>o,os:=os' },rfl,lr.refl _ _ _,hs,⟨⟨by rw [hy];exact g3.2,fun j hj=>hfp j (.inr ⟨o,g2,hj⟩)⟩,fun f hf j hj=>?_,⟨⟨hno,hn,es,clock,h3,p2,hst⟩,fun j hj=>hfp j (hfp' j hj)⟩,fun f hf j hj=>hap f hf j (hfp' j hj),hO⟩,
   by rw [hy];exact g3.1,by rw [hy,g3.1];exact m7 g3.2⟩
  rcases gw.1 hf with rfl|hf
  ·intro hj'
   rcases hj' with rfl|⟨o',ho',e'⟩
   ·exact hnb o g2 hj
   ·exact g5 o' ho' j hj e'
  ·exact hap f hf j (.inr ⟨o,g2,hj⟩)
end
def N4{q:Rp α}{zs:List α}{x y:Operand}{dT sT el:TypeId}(hq:q.sz=1)(hu:E.P.underlying dT=some (.slice el))(hs:(E.P.info? el).map (·.size)=some 1)(A:bf E.N G x (tV (J l cap xs.length)))(hy: ∀a w S,mT w S->dI E.base E.B w S (gb q U l cap xs::O)->du E.N S a G-> ∃S1,mT w S1/\(H (eO q) ys).p S1 (a.eval y)/\ ∀cs zs,uh q S1 cs zs->uh q S cs (zs:List α))(hz:wF xs ys=zs):
  EffOK E (gb q U l cap xs::O) G ⟨some aE,.call ⟨.builtin .copy,#[x,y],#[dT,sT]⟩,ty,pos,after,g⟩ (fun _=>gb q U l cap zs::O) (fun _=>H (rI .i64) ((min ys.length xs.length:Nat):Int)):=fun a w S hs0 ho hf Y=>by
 subst hz
 have V:a.eval x=J l cap xs.length:=A S a hf
 obtain⟨S1,hs1,hy1,hback⟩:=hy a w S hs0 ho hf
 obtain⟨ad,cap',Z,_,_,h3⟩:=mY.1 hy1
 obtain⟨⟨cells,hraw,hrc,hS⟩,hbase⟩:=ho.1
 have hm:min ys.length xs.length<=ys.length:=Nat.min_le_left _ _
 cases l with
 |none=>
  have hx0:xs=[]:=za hraw.1
  subst hx0
  have hrun:(Builtin.copy_ #[dT,sT] ty #[.slice none 0 0,a.eval y]).run E.P w= .ok (goInt 0) w:=by
   rw [Z]
   cases hel:E.P.info? el with
   |none=>simp [hel]at hs
   |some i=>
    have hi:i.size=1:=by simpa [hel] using hs
    cases ad with
    |none=>simp [Builtin.copy_,ka hu,Builtin.lenOf,Builtin.firstCells,sizeOf,typeInfo,hel,hi,storeCells]
    |some p=>
     have hl:=run_loadCells_list (P:=E.P) w p [] (fun j v hv=>by simp at hv)
     simp only [sD]at hl
     simp [Builtin.copy_,ka hu,Builtin.lenOf,Builtin.firstCells,sizeOf,typeInfo,hel,hi,storeCells,hl]
  have hx' :(execOp a.eval ⟨some aE,.call ⟨.builtin .copy,#[x,y],#[dT,sT]⟩,ty,pos,after,g⟩).run E.P w= .ok (.value (goInt 0)) w:=by
   have h1' :a.eval x= .slice none 0 0:=V
   simp [execOp,resolve,h1',invoke,builtin,hrun]
  refine⟨fun c h=>(by cases h),?_⟩
  rw [hx']
  refine⟨_,S,oF,rfl,lr.refl _ _ _,hs0,?_,?_⟩
  ·have e:wF ([]:List α) ys=[]:=by unfold wF;simp
   rw [e];exact ho
  ·exact ge.2 (by simp [goInt])
 |some b=>
  obtain⟨cur,g1,g2,g3,g4,g5⟩:=hraw
  rw [hq,FT]at g4 g5
  have h1' :a.eval x= .slice (some ⟨b,0,none⟩) xs.length cap:=V
  have hxl:xs.length<=cur.toList.length:=by simp [g4];exact g2
  obtain⟨cs,hcs,hrun,hlen⟩: ∃cs,uh q S cs (ys.take (min ys.length xs.length))/\(Builtin.copy_ #[dT,sT] ty #[.slice (some ⟨b,0,none⟩) xs.length cap,a.eval y]).run E.P w= .ok (goInt cs.length) (w.setRow b (cs++cur.toList.drop cs.length).toArray)/\cs.length=min ys.length xs.length:=by
   rw [Z]
   rcases h3 with rfl|⟨b',off,c,T',fr,rfl,e2,e3⟩
   ·refine⟨[],by simp [uh],?_,by simp⟩
    cases hel:E.P.info? el with
    |none=>simp [hel]at hs
    |some i=>
     have hi:i.size=1:=by simpa [hel] using hs
     have hself:w.setRow b (([]:List Value)++cur.toList.drop ([]:List Value).length).toArray=w:=by simpa using setRow_self w b cur U (0,0) g1
     rw [hself]
     cases ad with
     |none=>simp [Builtin.copy_,ka hu,Builtin.lenOf,Builtin.firstCells,sizeOf,typeInfo,hel,hi,storeCells]
     |some p=>
      have hl:=run_loadCells_list (P:=E.P) w p [] (fun j v hv=>by simp at hv)
      simp only [sD]at hl
      simp [Builtin.copy_,ka hu,Builtin.lenOf,Builtin.firstCells,sizeOf,typeInfo,hel,hi,storeCells,hl]
   ·obtain⟨c',h8,h9⟩:=hs1.part e2 (mF e3)
    obtain⟨d1,d2⟩:=O9 hq e3 hm
    rw [yD,hq,FT,Cf hm]at d1
    have hl:((c.toList.drop off).take (min ys.length xs.length)).length=min ys.length xs.length:=by
     rw [mF d1,hq,FT,Bk,Cf hm]
    refine⟨_,hback _ _ d1,?_,hl⟩
    have:=run_copy_row (P:=E.P) w dT sT ty el b 0 xs.length cap ⟨b',off,none⟩ ys.length cap' cur U ((c.toList.drop off).take (min ys.length xs.length)) hu hs g1 hl (fun j v hv=>?_) (by rw [hl];simp at hxl;omega) (CM d1)
    ·simpa using this
    ·have hj:j<min ys.length xs.length:=by rw [<-hl];exact(ui.1 hv).1
     have hcell:w.cell? ⟨b',off+j,none⟩=c'[off+j]? :=Aw h8 _
     rw [jD]
     show w.cell? ⟨b',off+j,none⟩=_
     rw [hcell]
     have h10:((c'.toList.drop off).take (ys.length*q.sz))[j]? =((c.toList.drop off).take (ys.length*q.sz))[j]? :=by rw [h9]
     rw [Dw (by rw [hq];omega),Dw (by rw [hq];omega),yX,yX]at h10
     rw [Dw hj,yX]at hv
     rw [<-hv,<-OF,h10]
  have hx' :(execOp a.eval ⟨some aE,.call ⟨.builtin .copy,#[x,y],#[dT,sT]⟩,ty,pos,after,g⟩).run E.P w= .ok (.value (goInt cs.length)) (w.setRow b (cs++cur.toList.drop cs.length).toArray):=by
   simp [execOp,resolve,h1',invoke,builtin,hrun]
  refine⟨fun c h=>(by cases h),?_⟩
  rw [hx']
  have hle:min ys.length xs.length<=xs.length:=Nat.min_le_right _ _
  have hrc' :uh q S (cur.toList.take xs.length) xs:=by rw [g5];exact hrc
  obtain⟨_,d4⟩:=O9 hq hrc' hle
  have hno:S b=none:=hS b rfl
  have hnew:AQ false q U (some b) cap (wF xs ys) (w.setRow b (cs++cur.toList.drop cs.length).toArray) S:=by
   refine⟨(cs++cur.toList.drop cs.length).take xs.length,⟨_,setRow_heap w b cur _ U _ g1,by rw [yp];exact g2,g3,?_,by rw [yp,hq,FT]⟩,?_,fun b' hb' =>by cases hb';exact hno⟩
   ·simp [hlen,hq];simp at hxl;omega
   ·unfold wF
    have e1:ys.take xs.length=ys.take (min ys.length xs.length):=by rw [List.take_eq_take_iff];omega
    have e2:(cs++cur.toList.drop cs.length).take xs.length=cs++(cur.toList.take xs.length).drop cs.length:=by
     rw [List.take_append,rt (by omega),Cj]
    rw [e1,e2,hlen]
    exact vx hcs d4
  obtain⟨k1,k2,k3⟩:=ne (O:=O) hs0 (w' :=w.setRow b (cs++cur.toList.drop cs.length).toArray) (gb q U (some b) cap xs) (gb q U (some b) cap (wF xs ys)) ho (fun k=>by simp [gb,mj];exact eq_comm) (fun k=>by simp [gb,mj];exact eq_comm) ⟨rfl,rfl,rfl,by simp [World.setRow],gc _⟩ (fun k hk=>setRow_other w b k _ hk) hnew hno
  refine⟨_,S,oF,rfl,k1.more fun k hk=>⟨_,oa ..,by subst hk;rfl⟩,k2,k3,?_⟩
  rw [hlen]
  exact ge.2 rfl
def N3{k:IntKind}{h1:TypeId}{l2:Option Nat}{cap2:Nat}{xs ys zs ws:List Int}{lo hi:Int}{x y:Operand}{dT sT el:TypeId}(hm:mj mm (rI k) h1 l2 cap2 ws∈gb (rI k) U l cap xs::O)(hsl:dN ws lo hi=some ys)(hu:E.P.underlying dT=some (.slice el))(hs:(E.P.info? el).map (·.size)=some 1)(A:bf E.N G x (tV (J l cap xs.length)))(hy:bf E.N G y (tV (o0 1 l2 cap2 lo.toNat ys.length)))(hz:wF xs ys=zs):
  EffOK E (gb (rI k) U l cap xs::O) G ⟨some aE,.call ⟨.builtin .copy,#[x,y],#[dT,sT]⟩,ty,pos,after,g⟩ (fun _=>gb (rI k) U l cap zs::O) (fun _=>H (rI .i64) ((min ys.length xs.length:Nat):Int)):=
 N4 rfl hu hs A (fun a w S hs0 ho hf=>by
  obtain⟨S1,V,Z⟩:=Qy hsl (dI.mem ho _ hm).1 hs0
  refine⟨S1,V,?_,fun cs zs h=>by rw [CN h];exact(CN h)▸Lp (fun h=>h) h⟩
  rw [show a.eval y=o0 1 l2 cap2 lo.toNat ys.length from hy S a hf]
  exact Z) hz
abbrev OO:Option Nat×Nat:=(none,0)
def Va(l:List (Option Nat×Nat))(os:List (List (Option Nat×Nat))):OI:={h:=fun n=>l.getD n (none,0),oss:=fun n=>os.getD n []}
def Tc{get:α->Value}{cs:List Value}{x:α}(h:jn r off rV get)(k:r.rc S cs x):cs[off]? =some (get x):=by
 have V:(cs.drop off).take 1=[get x]:=(h S cs x k).1
 rw [List.take_one,List.head?_drop]at V
 cases hc:cs[off]? with
 |none=>rw [hc]at V;cases V
 |some v=>rw [hc]at V;simpa using V

def Gg(t:Ty):Ty where
 p:=fun S v=>v.oneCell' =true/\t.p S v
 mono:=fun h ⟨e,k⟩=>⟨e,t.mono h k⟩
def ZX{t:Ty}: ∀S v,(Gg t).p S v->t.p S v:=fun _ _ h=>h.2
def Ya{t:Ty}: ∀S v,(Gg t).p S v->v.oneCell' =true:=fun _ _ h=>h.1
def UU(n:FuncId)(pre post:List Ty)(b:Nat):Ty where
 p:=fun S v=> ∃us vs,v= .func (.func n) #[] (us++an b 0::vs).toArray/\AR S pre us/\AR S post vs
 mono:=fun h ⟨us,vs,e,k1,k2⟩=>⟨us,vs,e,k1.mono h,k2.mono h⟩
variable{post pre:List Ty}
def Yb: ∀S v,(UU n pre post b).p S v->v.oneCell' =true:=fun _ _ ⟨_,_,e,_⟩=>by rw [e];rfl
def UT(n:FuncId)(pre post:List Ty)(b:Nat):Ty:=tPV (an b 0) (bt (rT (UU n pre post b)) ())
variable{Ob:X->OI->List OE}{args:hx->List Ty}{res:ρ->Ty}
section
def Q9{caps:List Operand}{cts:List Ty}(hc:ak E.P fid=true)(hp:kL E.N G caps cts)(hs: ∀x y R,f x y=some R-> ∀i,ea E.P fid (args y++cts) (Ob x i) (fun _:OI=>res R.1) (fun j=>Ob R.2 j)):
  cE E O G ⟨dst,.makeFunc (.func fid) #[] caps.toArray,ty,pos,after,g⟩ (Gg (mW E.P args Ob res f)):= .of_pure fun a w S _ _ hf=>by
 have V:=hp.tys hf
 refine⟨.func (.func fid) #[] (caps.map a.eval).toArray,by simp [execOp,Instr.makeFunc],rfl,fun x y R hR=>⟨fid,#[],(caps.map a.eval).toArray,rfl,hc,fun i w' S' vs hle hsat hv ho=>?_⟩⟩
 have:=hs x y R hR i w' S' (vs++caps.map a.eval) hsat (hv.append (V.mono hle)) ho
 rw [show(#[]++vs.toArray++(caps.map a.eval).toArray:Array Value)=(vs++caps.map a.eval).toArray from by simp]
 exact this
def Ra{xs ys:List Operand}{x:Operand}(V:kL E.N G xs pre)(A:bf E.N G x (tV (an b 0)))(Z:kL E.N G ys post):
  cE E O G ⟨dst,.makeFunc (.func n) #[] (xs++x::ys).toArray,ty,pos,after,g⟩ (UU n pre post b):= .of_pure fun a w S _ _ hf=>by
 have h3:a.eval x=an b 0:=A S a hf
 exact⟨.func (.func n) #[] ((xs++x::ys).map a.eval).toArray,by simp [execOp,Instr.makeFunc],xs.map a.eval,ys.map a.eval,by simp [h3],V.tys hf,Z.tys hf⟩
def IT{p:Operand}(ti:TI E.P U 1 bytes false z)(hp:bf E.N G p (UT n pre post b)):cE E O G ⟨dst,.load U p,ty,pos,after,g⟩ (UU n pre post b):=vy ti (ZW hp)
def IS{t:Ty}{p:Operand}(ti:TI E.P U 1 bytes false z)(hp:bf E.N G p (bt (rT (Gg t)) ())):cE E O G ⟨dst,.load U p,ty,pos,after,g⟩ t:=(vy ti hp).imp ZX
def Hl{pst:List Ty}{fo cp:Operand}{xs:List Operand}(O1 Or:List OE){t:OI->Ty}{O2 post:OI->List OE}(hO:O=O1++Or)(hf:bf E.N G fo (UU n pre pst b))(hcp:bf E.N G cp (UT n pre pst b))(hc:ak E.P n=true)(hs:ea E.P n (ts++(pre++UT n pre pst b::pst)) O1 t O2)(A:kL E.N G xs ts)(hpost: ∀i,O2 i++Or=post i):
  EffOK E O G ⟨some aE,.call ⟨.value fo,xs.toArray,ats⟩,ty,pos,after,g⟩ post t:=fun a w S hsat ho hF Y=>by
 subst hO
 obtain rfl:(fun i=>O2 i++Or)=post:=funext hpost
 obtain⟨us,vs,e,V,Z⟩:=hf S a hF
 have h3:(UT n pre pst b).p S (an b 0):=by
  have:=hcp S a hF
  exact⟨rfl,this.2⟩
 have hr:(execOp a.eval ⟨some aE,.call ⟨.value fo,xs.toArray,ats⟩,ty,pos,after,g⟩).run E.P w= .ok (.enter n (xs.map a.eval++(us++an b 0::vs)).toArray) w:=by
  simp [execOp,resolve,e,Deferred.ofValue,invoke,ko hc]
 refine⟨fun c h=>(by cases h),?_⟩
 rw [hr]
 have h4:AR S (ts++(pre++UT n pre pst b::pst)) (xs.map a.eval++(us++an b 0::vs)):=(A.tys hF).append (V.append ⟨h3,Z⟩)
 exact(hs w S _ hsat h4 (rk ho).1.weak).mono fun en w' ⟨i,v,S',he,hv,V,Z,h3,h4⟩=>⟨_,he,v,S',i,rfl,V.more fun b ⟨f,hf,Y⟩=>⟨f,HV _ hf,Y⟩,Z,dI.turn ho Y V h3 h4,hv⟩
end
def Uz(P:Program){hx X ρ:Type}(args:hx->List Ty)(Ob:X->OI->List OE)(res:ρ->Ty):Rp (X->hx->Option (ρ×X)) where
 sz:=1
 agg:=false
 rc:=fun S cs f=> ∃v,cs=[v]/\v.oneCell' =true/\(mW P args Ob res f).p S v
 mono:=fun h ⟨v,e,k,k2⟩=>⟨v,e,k,(mW _ _ _ _ _).mono h k2⟩
 len:=fun⟨v,h,_⟩=>by rw [h];rfl
 one:=fun⟨v,h,k,_⟩ c hc=>by rw [h]at hc;simp at hc;subst hc;exact k
 sc:=fun _=>rfl
def X2{x:Operand}(h:bf N G x (H (Uz P args Ob res) f)):bf N G x (mW P args Ob res f):=fun S a hf=>by
 obtain⟨cs,e,v,rfl,_,k⟩:=h S a hf
 rw [e];exact k
section
def vf{p:Operand}(hc:ak E.P fid=true)(hp:bf E.N G p (tV (an b 0)))(hs: ∀x y R,f x y=some R-> ∀i,ea E.P fid (tV (an b 0)::args y) (Ob x i) (fun _:OI=>res R.1) (fun j=>Ob R.2 j)):
  cE E O G ⟨dst,.makeFunc (.func fid) #[p] #[],ty,pos,after,g⟩ (H (Uz E.P args Ob res) f):= .of_pure fun a w S _ _ hf=>by
 have V:a.eval p=an b 0:=hp S a hf
 refine⟨.func (.func fid) #[an b 0] #[],by simp [execOp,Instr.makeFunc,V],[_],rfl,_,rfl,rfl,fun x y R hR=>⟨fid,#[an b 0],#[],rfl,hc,fun i w' S' vs _ hsat hv ho=>?_⟩⟩
 have:=hs x y R hR i w' S' (an b 0::vs) hsat ⟨rfl,hv⟩ ho
 rw [show(#[an b 0]++vs.toArray++ #[]:Array Value)=(an b 0::vs).toArray from by simp]
 exact this
end
variable{x0 x1 x10 x11 x12 x13 x14 x15 x2 x3 x4 x5 x6 x7 x8 x9:OE}
section
variable{c:Code}{e:Exit}{base:Nat}{B:Nat->Prop}{o:Oper}{post:OI->List OE}{t:OI->Ty}
def I5:(x0::x1::x2::x3::x4::x5::x6::x7::x8::x9::x10::x11::x12::x13::x14::x15::O).Perm (x15::x0::x1::x2::x3::x4::x5::x6::x7::x8::x9::x10::x11::x12::x13::x14::O):=(List.perm_middle (l₁:=[x0,x1,x2,x3,x4,x5,x6,x7,x8,x9,x10,x11,x12,x13,x14]) (l₂:=O))
def HF(h:RG E ops ah rest (x15::x0::x1::x2::x3::x4::x5::x6::x7::x8::x9::x10::x11::x12::x13::x14::O) G):RG E ops ah rest (x0::x1::x2::x3::x4::x5::x6::x7::x8::x9::x10::x11::x12::x13::x14::x15::O) G:=fun a w S st=>h a w S (st.own_map fun ho=>ho.perm I5)
def q6(h:AT E ah e (x15::x0::x1::x2::x3::x4::x5::x6::x7::x8::x9::x10::x11::x12::x13::x14::O) G):AT E ah e (x0::x1::x2::x3::x4::x5::x6::x7::x8::x9::x10::x11::x12::x13::x14::x15::O) G:=fun a w S st=>h a w S (st.own_map fun ho=>ho.perm I5)
def Ug:(x0::x1::x2::x3::x4::x5::x6::x7::x8::x9::x10::x11::O).Perm (x1::x2::x3::x4::x5::x6::x7::x8::x9::x10::x11::x0::O):=(List.perm_middle (l₁:=[x1,x2,x3,x4,x5,x6,x7,x8,x9,x10,x11]) (l₂:=O)).symm
def pD(h:EffOK E (x1::x2::x3::x4::x5::x6::x7::x8::x9::x10::x11::x0::O) G o post t):EffOK E (x0::x1::x2::x3::x4::x5::x6::x7::x8::x9::x10::x11::O) G o post t:=EffOK.perm h (fun ho=>ho.perm Ug) (fun f hf=>Ug.symm.subset hf)
def Uf:(x0::x1::x2::x3::x4::x5::x6::x7::x8::x9::x10::x11::x12::O).Perm (x1::x2::x3::x4::x5::x6::x7::x8::x9::x10::x11::x12::x0::O):=(List.perm_middle (l₁:=[x1,x2,x3,x4,x5,x6,x7,x8,x9,x10,x11,x12]) (l₂:=O)).symm
def B0(h:EffOK E (x1::x2::x3::x4::x5::x6::x7::x8::x9::x10::x11::x12::x0::O) G o post t):EffOK E (x0::x1::x2::x3::x4::x5::x6::x7::x8::x9::x10::x11::x12::O) G o post t:=EffOK.perm h (fun ho=>ho.perm Uf) (fun f hf=>Uf.symm.subset hf)
end
open Go.Sort Go.Shelf

def C1(h:k<w.heap.size):(grow w os).heap[k]? =w.heap[k]? :=by
 unfold grow;exact Array.getElem?_append_left h
variable{enc:α->Value}
def LS [Inhabited α]{aE:Array α}(h:k≠b):(putRow enc w b off aE).heap[k]? =w.heap[k]? :=by
 unfold putRow mapBlock
 rw [Array.getElem?_modify,cr (Ne.symm h)]
def C0 [Inhabited α]{m:Nat}{aE:Array α}(hk:k<w.heap.size)(h:k≠b):(sortWorld enc w b off m aE os).heap[k]? =w.heap[k]? :=by
 unfold sortWorld
 rw [C1 (by rw [size_putRow];exact hk),LS h];rfl
def JV [Inhabited α]{m:Nat}{aE:Array α}{c:Array Value}{fr:Nat×Nat}(h:w.heap[b]? =some (.cells c T fr)):
  (sortWorld enc w b off m aE os).heap[b]? =some (.cells (putCells enc off aE c) T fr):=by
 have hlt:=(Bq.1 h).1
 unfold sortWorld
 rw [C1 (by rw [size_putRow];exact hlt)]
 unfold putRow mapBlock
 rw [Array.getElem?_modify,cz rfl]
 show Option.map _ (w.heap[b]?)=_
 rw [h];rfl
def H6 [Inhabited α]{aE:Array α}{c:Array Value}(h:aE.size<=c.size):(putCells enc 0 aE c).toList.take aE.size=aE.toList.map enc:=by
 apply KE
 intro k
 by_cases hk:k<aE.size
 ·rw [Dw hk]
  have hc:k<c.size:=by omega
  simp [putCells,hc,hk]
 ·rw [Is (by simp;omega),Is (by simp;omega)]
section
def Mo{n m:Nat}(hl:m=n)(s:Nat)(hs:look G s=some (tV (J l cap n)))(k:RG E ops ah rest O ((s,tV (J l cap m))::G)):RG E ops ah rest O G:=by
 subst hl
 exact fun a w S st=>k a w S ⟨st.ext,st.sat,st.own,⟨st.facts.size,st.facts.defers,fun j t h=>by
  unfold look at h
  by_cases Y:Nat.beq s j=true
  ·rw [Y]at h
   have:=qL Y
   subst this
   have e:tV (J l cap m)=t:=by simpa using h
   rw [<-e];exact st.facts.at_ s _ hs
  ·rw [Dv]at Y
   rw [Y]at h
   exact st.facts.at_ j t h⟩⟩
end

def Zs{α:Type}(cmp:α×α->Option Int)(x y:α):Bool:=
 match cmp (x,y)with
 |some c=>decide (c<0)
 |none=>false
def Z5{α:Type}(lt:α->α->Bool)(x:α):List α->List α
 |[]=>[x]
 |y::ys=>if lt y x then y::Z5 lt x ys else x::y::ys
def Xd{α:Type}(lt:α->α->Bool):List α->List α
 |[]=>[]
 |x::xs=>Z5 lt x (Xd lt xs)
structure Good{α:Type}(cmp:α×α->Option Int)(xs:List α):Prop where
 len:xs.length<=1099511627776
 tot: ∀x∈xs,∀y∈xs,(cmp (x,y)).isSome=true
 irr: ∀x∈xs,Zs cmp x x=false
 tr: ∀x∈xs,∀y∈xs,∀z∈xs,Zs cmp x y=true->Zs cmp y z=true->Zs cmp x z=true
 anti: ∀x∈xs,∀y∈xs,Zs cmp x y=false->Zs cmp y x=false->x=y
def sortI(xs:List Int):List Int:=xs.mergeSort fun x y=>decide (x<=y)
def DD(xs:List Int):(sortI xs).length=xs.length:=by unfold sortI;simp
def I1(x:Int):List Int->List Int
 |[]=>[x]
 |y::l=>if x<=y then x::y::l else y::I1 x l
def Rl:List Int->List Int
 |[]=>[]
 |x::l=>I1 x (Rl l)
def BK(x:Int): ∀l:List Int,(I1 x l).Perm (x::l)
 |[]=> .refl _
 |y::l=>by
  unfold I1
  split
  ·exact .refl _
  ·exact((BK x l).cons y).trans (.swap x y l)
def I0: ∀l:List Int,(Rl l).Perm l
 |[]=> .refl _
 |x::l=>(BK x (Rl l)).trans ((I0 l).cons x)
def LN(x:Int): ∀l:List Int,l.Pairwise (· <= ·)->(I1 x l).Pairwise (· <= ·)
 |[],_=>List.pairwise_singleton _ _
 |y::l,h=>by
  have hy: ∀z∈l,y<=z:=fun z hz=>List.rel_of_pairwise_cons h hz
  unfold I1
  split
  ·rename_i A
   refine List.Pairwise.cons (fun z hz=>?_) h
   rcases gw.1 hz with rfl|hz
   ·exact A
   ·exact Int.le_trans A (hy z hz)
  ·rename_i A
   refine List.Pairwise.cons (fun z hz=>?_) (LN x l (List.Pairwise.of_cons h))
   rcases gw.1 ((BK x l).mem_iff.1 hz)with rfl|hz
   ·omega
   ·exact hy z hz
def Pt: ∀l:List Int,(Rl l).Pairwise (· <= ·)
 |[]=> .nil
 |x::l=>LN x _ (Pt l)
def Vg(l:List Int):Rl l=sortI l:=by
 refine List.Perm.eq_of_pairwise (le:=(· <= ·)) (fun a b _ _ V Z=>Int.le_antisymm V Z) (Pt l) ?_ ((I0 l).trans (List.mergeSort_perm l _).symm)
 have:=List.pairwise_mergeSort (le:=fun x y:Int=>decide (x<=y)) (fun a b c V Z=>by simp at*;omega) (fun a b=>by simp;omega) l
 exact this.imp fun h=>by simpa using h
def Gh(xs:List Int):Option (List Int):=if xs.length<=68719476736 then some (Rl xs)else none
def IB(xs:List Int):Gh xs=if xs.length<=68719476736 then some (sortI xs)else none:=by
 unfold Gh
 rw [Vg]
def KY{xs ys:List Int}(h:Gh xs=some ys):xs.length<=68719476736/\ys=sortI xs:=by
 rw [IB]at h
 split at h
 ·exact⟨by assumption,by simpa using h.symm⟩
 ·cases h


def O8{k:IntKind}{S:SH}: ∀{xs:List Int} {cs:List Value},uh (rI k) S cs xs->cs=xs.map (Value.int k)
 |[],cs,h=>by rw [show cs=[]from h];rfl
 |x::xs,cs,⟨a,b,e,V,Z⟩=>by
  rw [e,show a=[.int k x]from V,O8 Z]
  rfl
def Ps{k:IntKind}{S:SH}: ∀xs:List Int,uh (rI k) S (xs.map (Value.int k)) xs
 |[]=>rfl
 |x::xs=>⟨[.int k x],_,rfl,rfl,Ps xs⟩
def QI{ρ:Ren}(L:Lays.n189 P ρ){xs:List Int}(hlen0:xs.length<=68719476736)(hs:mT w S)(h:(gb (rI .i64) T l cap xs).p w S):
  Calls P (ρ.f 189) #[J l cap xs.length] w fun e w' =>e= .returned (.tuple #[])/\lr (fun k=>l=some k) w S w' S/\mT w' S/\(gb (rI .i64) T l cap (sortI xs)).p w' S:=by
 cases l with
 |none=>
  have A:xs=[]:=za (by obtain⟨_,h4,_⟩:=h;exact h4.1)
  subst A
  exact(Any.slices_Sort_int_none (P:=P) (ρ:=ρ) L none 0 w).mono fun _ _ ⟨V,Z⟩=>by subst Z;exact⟨V,lr.refl _ _ _,hs,by simpa [sortI] using h⟩
 |some b=>
  obtain⟨cells0,⟨cur,Y,hle,hmax,hcs,hct⟩,hrc,hno0⟩:=h
  have hno:S b=none:=hno0 b rfl
  subst hct
  have V:(rI .i64).sz=1:=rfl
  rw [V,FT]at hcs hrc
  have hcells:=O8 hrc
  have hH:Holds (Value.int .i64) w b 0 xs.toArray:=by
   intro j hj
   have hj' :j<xs.length:=by simpa using hj
   have hc:cur[j]? =some (Value.int .i64 xs.toArray[j]!):=by
    have:(cur.toList.take xs.length)[j]? =some (Value.int .i64 xs.toArray[j]!):=by
     rw [hcells,Io,getElem!_pos xs.toArray j hj]
     simp [hj']
    rw [Dw (by omega)]at this
    simpa using this
   refine⟨by simp [World.cell?,Y,hc],?_⟩
   simp [World.frozen?,Y]
  have hblk:=(Bq.1 Y).1
  have hcall:=calls_of_every_depth fun hg=>AnyS.slices_Sort_int_alone (P:=P) (ρ:=ρ) L hg b 0 cap xs w hH hblk (by omega)
  refine hcall.mono fun e w' ⟨he,n,os,hw⟩=>?_
  have hlen:=DD xs
  have hw2:w' =sortWorld (Value.int .i64) w b 0 n (sortI xs).toArray os:=hw
  subst hw2
  refine⟨he,⟨rfl,rfl,rfl,Nat.le_add_right _ _,?_,fun k hk hkb=>C0 hk (fun e=>hkb (by rw [e])),SH.le_refl _,fun _ _ _=>rfl⟩,hs.same fun k o hk=>?_,⟨_,⟨_,JV Y,by omega,hmax,?_,rfl⟩,?_,hno0⟩⟩
  ·unfold sortWorld;rw [size_grow,size_putRow];exact Nat.le_add_right _ _
  ·have hkb:k≠b:=fun e=>by subst e;rw [hno]at hk;cases hk
   exact C0 (hs.lt hk) hkb
  ·simp [putCells,V,hcs]
  ·have e1:(sortI xs).length*(rI .i64).sz=(sortI xs).toArray.size:=by rw [V];simp
   rw [e1,H6 (by simp;omega)]
   exact Ps (sortI xs)
section
def Un{ρ:Ren}(L:Lays.n189 E.P ρ){f:FuncId}(hf:ρ.f 189=f)(hc:ak E.P f=true){n:Nat}{xs ys:List Int}{x:Operand}(hy:Gh xs=some ys)(A:bf E.N G x (tV (J l cap n)))(hn:n=xs.length)(hd:Nat.blt aE E.N.n=true)(k:ys.length=n->RG E ops ah rest (gb (rI .i64) T l cap ys::O) ((aE,tR)::G)):RG E ops ah (⟨some aE,.call ⟨.value (.func f),#[x],ats⟩,ty,pos,after,none⟩::rest) (gb (rI .i64) T l cap xs::O) G:= .of rfl fun a w S st=>by
 obtain⟨hl0,rfl⟩:=KY hy
 subst hf
 subst hn
 have V:a.eval x=J l cap xs.length:=A S a st.facts
 have hr:(execOp a.eval ⟨some aE,.call ⟨.value (.func (ρ.f 189)),#[x],ats⟩,ty,pos,after,none⟩).run E.P w= .ok (.enter (ρ.f 189) #[J l cap xs.length]) w:=by
  have e0:a.eval (.func (ρ.f 189))= .func (.func (ρ.f 189)) #[] #[]:=rfl
  simp [execOp,resolve,e0,V,Deferred.ofValue,invoke,ko hc]
 refine⟨fun c h=>(by cases h),?_⟩
 rw [hr]
 refine(QI L hl0 st.sat st.own.1.1).mono fun e w' ⟨he,hext,hsat,hp⟩=>⟨_,he,?_⟩
 have hfp: ∀g∈O,∀b,g.fp b-> ¬(l=some b):=fun g D b Y hl=>st.own.2.1 g D b hl Y
 refine k (DD xs) _ _ S ⟨st.ext.step hext (fun c hc=>st.own.1.2 c hc),hsat,⟨⟨hp,st.own.1.2⟩,st.own.2.1,st.own.2.2.ext hext hfp⟩,?_⟩;exact(st.facts.mono hext.keep).put hd trivial
end
open Go.Lib

variable{W:World}
def sd(hle: ∀(b:Nat) (o:Obj),W.heap[b]? =some o-> ∃o',w.heap[b]? =some o' /\HT o o'){v:Value}(h:W.cell? ⟨b,i,none⟩=some v):w.cell? ⟨b,i,none⟩=some v:=by
 unfold World.cell? at h ⊢
 cases Y:W.heap[b]? with
 |none=>simp [Y]at h
 |some o=>
  obtain⟨o',V,Z⟩:=hle b o Y
  simp only [Y]at h
  simp only [V]
  cases o with
  |cells c T fr=>
   obtain⟨l,rfl⟩:=Z
   simp only [Option.isSome_none,lu,jQ]at h ⊢
   rw [<-OF]at h ⊢
   rw [E0 (ui.1 h).1]
   exact h
  |_=>simp at h
def Mx{g:Nat}{T:Array CaseRow}(hle: ∀(b:Nat) (o:Obj),W.heap[b]? =some o-> ∃o',w.heap[b]? =some o' /\HT o o')(h:CaseVar g T W):CaseVar g T w:=by
 obtain⟨R,oR,cap,V,Z⟩:=h
 exact⟨R,oR,cap,sd hle V,fun i hi=>⟨sd hle (Z i hi).1,sd hle (Z i hi).2.1,sd hle (Z i hi).2.2.1,sd hle (Z i hi).2.2.2.1,sd hle (Z i hi).2.2.2.2⟩⟩
def Ku{g3 g4:Nat}(hle: ∀(b:Nat) (o:Obj),W.heap[b]? =some o-> ∃o',w.heap[b]? =some o' /\HT o o')(h:Utf8Tabs g3 g4 W):Utf8Tabs g3 g4 w:=
 ⟨fun c hc=>sd hle (h.1 c hc),fun i hi=>⟨sd hle (h.2 i hi).1,sd hle (h.2 i hi).2⟩⟩
end Go.Proofs.YthbdkceckjihgaaGreatDoor

