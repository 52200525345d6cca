/- de of this claim: W64, W59, W61, W63, W67, W68, W58, W66, W71, W72, W73, W60, W44, W55, W29, W54, W75. -/
import Derived.Test.YtigldkegamffhaaGreatDoorBfV3
import Derived.Test.YtigldkegamffhaaGreatDoorBfV2
import Derived.WideKeyRuns
import Derived.Shelf.GgSortFunc.Insertion
import Derived.Shelf.Slices.In.SortNone
import Derived.Test.YtigldkegamffhaaGreatDoorBfV1
import Derived.Shelf.Unicode.CaseTo
import Derived.Shelf.Unicode.DecodeSlow
set_option linter.all false
namespace Go.Proofs.YtigldkegamffhaaGreatDoor
open Go

variable{aN:Nat}{α:Type}{n:FuncId}{r:Rp α}{t:TypeId}
def xI{n:Nat}{r s:Option Ty}{t u:Ty}(h:(wS n aN r,s)=(some t,some u)):Nat.blt aN n=true/\r=some t/\s=some u:=
 ⟨(dY (yp h).1).1,(dY (yp h).1).2,(yp h).2⟩
def XT(G:lY):Operand->Option Ty
 | .tmp k=>look G k
 | .const (.int k n)=>some (K (rI k) n)
 | .const (.bool b)=>some (K rB b)
 |_=>none
variable{G:lY}{N:Fr}{x:Operand}
def NT{t:Ty}: ∀{x:Operand},XT G x=some t->aL N G x t
 | .tmp _,h=>M h
 | .const (.int _ _),h=>by cases h;exact hI
 | .const (.bool _),h=>by cases h;exact hB
variable{ts:List Ty}{xs:List α}
def gm{N:Fr}{G:lY}: ∀{xs:List Operand} {ts:List Ty},xs.map (XT G)=ts.map some->j3 N G xs ts
 |[],[],_=>trivial
 |_::_,_::_,h=>⟨NT (Cg h).1,gm (Cg h).2⟩

variable{h1:Type}{E:En}{O:List OE}{X:Type}{af:Exit->Act->World->Prop}{T U:TypeId}{a:Nat}{after after2:Array Edge}{agg:Bool}{ats:Array TypeId}{b bytes c cap d2:Nat}{dst:Option Tmp}{e:TypeId}{ρ:Type}{f:X->h1->Option (ρ×X)}{fid:FuncId}{g:Option (Nat×Bool)}{β:Type}{get:α->β}{i id' :Nat}{j:IntKind}{k:Nat}{κ:Type}{l:Option Nat}{m:List (κ×β)}{off:Nat}{ops:Array Oper}{p:Nat}{pos pos2:String}{q:Rp β}{st:TypeId}{tl:List α}{ty ty2:TypeId}{v:Operand}{w:World}{xt:TypeId}{y:α}{yt:TypeId}{z:List Value}{zs:List α}{γ:β->Ty}
section
variable{l:List Oper}{op:Op}{t:Ty}
def Q(h:ce E O G ⟨some aN,op,ty,pos,after,none⟩ t)(k:RG E ops af l O ((aN,t)::G))(hd:Nat.blt aN E.N.n=true:=by exact rfl):
  RG E ops af (⟨some aN,op,ty,pos,after,none⟩::l) O G:=fL h hd k
def d5{x:α}{sz:Nat}(ti:TI E.P U sz bytes agg z)(hp:wS E.N.n aN (look G p)=some (bt r x))(k:RG E ops af l O ((aN,K r x)::G))(hs:(r.sz,r.agg)=(sz,agg):=by exact rfl):RG E ops af (⟨some aN,.load U (.tmp p),ty,pos,after,none⟩::l) O G:=zo (dY hp).1 (wx ti (dY hp).2 hs) k
def AD{x:α}{sz:Nat}(hf:bp E.P T i=some (off,sz))(hq:ju r off q get)(hp:wS E.N.n aN (look G p)=some (bt r x))(k:RG E ops af l O ((aN,bt q (get x))::G))(h0:(!(Nat.beq sz 0)&&Nat.ble (off+q.sz) r.sz)=true:=by exact rfl):
  RG E ops af (⟨some aN,.fieldAddr T (.tmp p) i,ty,pos,after,none⟩::l) O G:=zo (dY hp).1 (AC hf hq (dY hp).2 h0) k
def cU{x:α}{sz s2:Nat}{p2:Nat}(hf:bp E.P T i=some (off,sz))(hq:ju r off q get)(ti:TI E.P U s2 bytes agg z)(hp:wS E.N.n aN (look G p)=some (bt r x))(k:RG E ops af l O ((d2,K q (get x))::(aN,bt q (get x))::G))(h0:(!(Nat.beq sz 0)&&Nat.ble (off+q.sz) r.sz)=true:=by exact rfl)(hp2:wS E.N.n d2 (look ((aN,bt q (get x))::G) p2)=some (bt q (get x)):=by exact rfl)(hs:(q.sz,q.agg)=(s2,agg):=by exact rfl):
  RG E ops af (⟨some aN,.fieldAddr T (.tmp p) i,ty,pos,after,none⟩::⟨some d2,.load U (.tmp p2),ty2,pos2,after2,none⟩::l) O G:=AD hf hq hp (d5 ti hp2 k hs) h0
def ca{sz o:Nat}(n:Nat)(hf:bp E.P T i=some (off,sz))(hp:wS E.N.n aN (look G p)=some (Z (al b o)))(k:RG E ops af l O ((aN,Z (al b n))::G))(h0:Nat.beq sz 0=false:=by exact rfl)(he:o+off=n:=by exact rfl):RG E ops af (⟨some aN,.fieldAddr T (.tmp p) i,ty,pos,after,none⟩::l) O G:=zo (dY hp).1 (qX n hf h0 (dY hp).2 he) k
def fI{x:Nat}(D:wS E.N.n aN (look G x)=some (tT ts))(hi:ts[i]? =some t)(k:RG E ops af l O ((aN,t)::G)):RG E ops af (⟨some aN,.extract (.tmp x) i,ty,pos,after,none⟩::l) O G:=zo (dY D).1 (Bd hi (dY D).2) k
def dg{n:Int}(k:RG E ops af l O ((aN,K (rI j) n)::G))(hd:Nat.blt aN E.N.n=true:=by exact rfl):RG E ops af (⟨some aN,.assign (.const (.int j n)),ty,pos,after,none⟩::l) O G:=zo hd zai k
def cJ{b:Bool}(k:RG E ops af l O ((aN,K rB b)::G))(hd:Nat.blt aN E.N.n=true:=by exact rfl):RG E ops af (⟨some aN,.assign (.const (.bool b)),ty,pos,after,none⟩::l) O G:=zo hd zab k
def dr{x:Nat}(hu:E.P.underlying st=some (.slice e))(D:wS E.N.n aN (look G x)=some (K (fJ r) xs))(k:RG E ops af l O ((aN,K (rI .i64) (xs.length:Int))::G)):
  RG E ops af (⟨some aN,.call ⟨.builtin .len,#[.tmp x],#[st]⟩,ty,pos,after,none⟩::l) O G:=zo (dY D).1 (zln hu (dY D).2) k
def eA{v:α}{x:Nat}(D:wS E.N.n aN (look G x)=some (K r v))(k:RG E ops af l O ((aN,bt r v)::G)):RG E ops af (⟨some aN,.box T (.tmp x),ty,pos,after,none⟩::l) O G:=zo (dY D).1 (zbx (dY D).2) k
def j5{x:Nat}{b q:Bool}(h:(wS E.N.n aN (look G c),look G x)=(some (K rB b),some (pG b (K rB q))))(k:RG E ops af l O ((aN,K rB (b&&q))::G)):
  RG E ops af (⟨some aN,.pick (.tmp c) (.tmp x) (.const (.bool false)),ty,pos,after,none⟩::l) O G:=zo (xI h).1 (zpa (xI h).2.1 (xI h).2.2) k
def ph{x:Nat}{b q:Bool}(h:(wS E.N.n aN (look G c),look G x)=(some (K rB b),some (pG (!b) (K rB q))))(k:RG E ops af l O ((aN,K rB (b||q))::G)):
  RG E ops af (⟨some aN,.pick (.tmp c) (.const (.bool true)) (.tmp x),ty,pos,after,none⟩::l) O G:=zo (xI h).1 (zpo (xI h).2.1 (xI h).2.2) k
section
variable{x y:Nat}{m n:Int}
def uq(h:(wS E.N.n aN (look G x),look G y)=(some (K (rI j) m),some (K (rI j) n)))(k:RG E ops af l O ((aN,K rB (decide (m<n)))::G)):
  RG E ops af (⟨some aN,.binOp .lss xt (.tmp x) (.tmp y) yt,ty,pos,after,none⟩::l) O G:=zo (xI h).1 (zlt (xI h).2.1 (xI h).2.2) k
def jK(D:wS E.N.n aN (look G x)=some (K (rI j) m))(k:RG E ops af l O ((aN,K rB (m==n))::G)):RG E ops af (⟨some aN,.binOp .eql xt (.tmp x) (.const (.int j n)) yt,ty,pos,after,none⟩::l) O G:=zo (dY D).1 (zei (dY D).2) k
def mp(D:wS E.N.n aN (look G x)=some (K (rI j) m))(k:RG E ops af l O ((aN,K rB (m !=n))::G)):RG E ops af (⟨some aN,.binOp .neq xt (.tmp x) (.const (.int j n)) yt,ty,pos,after,none⟩::l) O G:=zo (dY D).1 (zni (dY D).2) k
def sv{c:Bool}(D:look G x=some (pG c (K (rI j) m)))(hc:c=true):ce E O G ⟨dst,.binOp .eql xt (.tmp x) (.const (.int j n)) yt,ty,pos,after,g⟩ (K rB (m==n)):=sf (df D hc) hI
def EV{c:Bool}(D:look G x=some (pG c (K (rI j) m)))(hc:c=true):ce E O G ⟨dst,.binOp .neq xt (.tmp x) (.const (.int j n)) yt,ty,pos,after,g⟩ (K rB (m !=n)):=jg (df D hc) hI
def fH{id:Nat}{z w:Code}(D:xs.drop i=[])(h:(wS E.N.n aN (look G a),look G b)=(some (K (rI .i64) (i:Int)),some (K (rI .i64) (xs.length:Int))))(k:AT E af .normal O ((aN,K rB (decide ((i:Int)<(xs.length:Int))))::G))(hc:look ((aN,K rB (decide ((i:Int)<(xs.length:Int))))::G) c=some (K rB (decide ((i:Int)<(xs.length:Int)))):=by exact rfl):
  LG E (Exit.inBlock id af) (.seq (.region id' [⟨some aN,.binOp .lss xt (.tmp a) (.tmp b) yt,ty,pos,after,none⟩].toArray false) (.seq (.cond (.tmp c) z (.exit id)) w)) O G:=
 d7<|bA<|uq h<|co<|aE<|lb (M hc) (Da D)<|gH<|aH (aH (dA k))
def fG{e:α}{z w:Code}(D:xs.drop i=e::tl)(h:(wS E.N.n aN (look G a),look G b)=(some (K (rI .i64) (i:Int)),some (K (rI .i64) (xs.length:Int))))(k:CG E (Exit.then (Bw E.r E.P (.seq (.region id' [⟨some aN,.binOp .lss xt (.tmp a) (.tmp b) yt,ty,pos,after,none⟩].toArray false) (.seq (.cond (.tmp c) .skip z) w)) af) af) w O ((aN,K rB (decide ((i:Int)<(xs.length:Int))))::G))(hc:look ((aN,K rB (decide ((i:Int)<(xs.length:Int))))::G) c=some (K rB (decide ((i:Int)<(xs.length:Int)))):=by exact rfl):
  LG E af (.seq (.region id' [⟨some aN,.binOp .lss xt (.tmp a) (.tmp b) yt,ty,pos,after,none⟩].toArray false) (.seq (.cond (.tmp c) .skip z) w)) O G:=
 d7<|bA<|uq h<|co<|aE<|la (M hc) (zm D)<|nG k
end
def xH{x ix:Nat}{i:Int}{sz:Nat}(hu:E.P.underlying st=some (.slice e))(ti:TI E.P e sz bytes agg z)(h:(wS E.N.n aN (look G x),look G ix)=(some (K (fJ r) xs),some (K (rI j) i)))(hy:ep xs i=some y)(k:RG E ops af l O ((aN,bt r y)::G))(hsz:r.sz=sz:=by exact rfl):
  RG E ops af (⟨some aN,.indexAddr st (.tmp x) (.tmp ix),ty,pos,after,none⟩::l) O G:=zo (xI h).1 (Wb hu ti hsz (xI h).2.1 (xI h).2.2 hy) k
def i9{x ix:Nat}{i:Int}{sz:Nat}{p2:Nat}(hu:E.P.underlying st=some (.slice e))(ti:TI E.P e sz bytes agg z)(h:(wS E.N.n aN (look G x),look G ix)=(some (K (fJ r) xs),some (K (rI j) i)))(hy:ep xs i=some y)(k:RG E ops af l O ((d2,K r y)::(aN,bt r y)::G))(hsz:r.sz=sz:=by exact rfl)(hp2:wS E.N.n d2 (look ((aN,bt r y)::G) p2)=some (bt r y):=by exact rfl)(hs:(r.sz,r.agg)=(sz,agg):=by exact rfl):
  RG E ops af (⟨some aN,.indexAddr st (.tmp x) (.tmp ix),ty,pos,after,none⟩::⟨some d2,.load e (.tmp p2),ty2,pos2,after2,none⟩::l) O G:=xH hu ti h hy (d5 ti hp2 k hs) hsz
def cG{set:α->β->α}{x:α}{y:β}{sz:Nat}{v:Nat}{ty:TypeId}(ti:TI E.P U sz bytes agg z)(hset:fm r off q set)(h:(look G p,look G v)=(some (Z (al b off)),some (K q y)))(k:RG E ops af l (bx r T b (set x y)::O) G)(hsz:q.sz=sz:=by exact rfl)(hoff:Nat.ble (off+q.sz) r.sz=true:=by exact rfl):
  RG E ops af (⟨none,.store U (.tmp p) (.tmp v),ty,pos,after,none⟩::l) (bx r T b x::O) G:=jJ ti hsz hset hoff (M (yp h).1) (M (yp h).2) k
def Qj(n:Nat)(ops:Array Oper)(aN j:Nat)(G:lY):Option Ty:=((ops[j]?).bind (·.dst)).bind fun gs=>wS n gs (wS n aN (look G gs))
def Gj{n aN j:Nat}{ops:Array Oper}{t:Ty}(h:Qj n ops aN j G=some t): ∃gs,(ops[j]?).bind (·.dst)=some gs/\wS n gs (wS n aN (look G gs))=some t:=by
 unfold Qj at h
 cases hg:(ops[j]?).bind (·.dst)with
 |none=>rw [hg]at h;cases h
 |some gs=>rw [hg]at h;exact⟨gs,rfl,h⟩
def aB{j:Nat}{b:Bool}(hg:Qj E.N.n ops aN j G=some (K rB b))(h:b=true->ce E O G ⟨some aN,op,ty,pos,after,some (j,true)⟩ t)(k:RG E ops af l O ((aN,pG b t)::G)):
  RG E ops af (⟨some aN,op,ty,pos,after,some (j,true)⟩::l) O G:=by obtain⟨gs,A,V⟩:=Gj hg;exact zgt A V h k
def bY{j:Nat}{b:Bool}(hg:Qj E.N.n ops aN j G=some (K rB b))(h:(!b)=true->ce E O G ⟨some aN,op,ty,pos,after,some (j,false)⟩ t)(k:RG E ops af l O ((aN,pG (!b) t)::G)):
  RG E ops af (⟨some aN,op,ty,pos,after,some (j,false)⟩::l) O G:=by obtain⟨gs,A,V⟩:=Gj hg;exact zgf A V h k
section
variable{c:Bool}
def dw{x:α}{sz:Nat}(ti:TI E.P U sz bytes agg z)(hp:look G p=some (pG c (bt r x)))(hs:(r.sz,r.agg)=(sz,agg))(hc:c=true):
  ce E O G ⟨dst,.load U (.tmp p),ty,pos,after,g⟩ (K r x):=nO ti (yp hs).1 (yp hs).2 (df hp hc)
def dQ{x:α}{sz:Nat}(hf:bp E.P T i=some (off,sz))(hq:ju r off q get)(hp:look G p=some (bt r x))(h0:(!(Nat.beq sz 0)&&Nat.ble (off+q.sz) r.sz)=true)(_:c=true):ce E O G ⟨dst,.fieldAddr T (.tmp p) i,ty,pos,after,g⟩ (bt q (get x)):=AC hf hq hp h0
def gB{x:Nat}(D:look G x=some t)(_:c=true):ce E O G ⟨dst,.move (.tmp x),ty,pos,after,g⟩ t:=jM D
def yx{x:Nat}(D:look G x=some (pG c t))(hc:c=true):ce E O G ⟨dst,.move (.tmp x),ty,pos,after,g⟩ t:=bG (df D hc)
def xJ{x:Nat}(hu:E.P.underlying st=some (.slice e))(D:look G x=some (pG c (K (fJ r) xs)))(hc:c=true):
  ce E O G ⟨dst,.call ⟨.builtin .len,#[.tmp x],#[st]⟩,ty,pos,after,g⟩ (K (rI .i64) (xs.length:Int)):=oc hu (df D hc)
def Cp{b:Bool}{x:Nat}(D:look G x=some (pG c (K rB b)))(hc:c=true):ce E O G ⟨dst,.unOp .not xt (.tmp x),ty,pos,after,g⟩ (K rB (!b)):=m9 (df D hc)
end
def bP{x:Nat}{y:Code}(h:wS E.N.n aN (look G x)=some t)(k:CG E af y O ((aN,t)::G)):RG E ops (Exit.then (y.wpIn (fw E.r) 0 E.P af) af) [⟨some aN,.assign (.tmp x),ty,pos,after,none⟩] O G:=lI h (co k)
def fh(h:AT E af .ret O G):RG E ops (Exit.then (Code.ret.wpIn (fw E.r) 0 E.P af) af) [] O G:=co (zE h)
def bF{x:Nat}(h:wS E.N.n aN (look G x)=some t)(k:AT E af .ret O ((aN,t)::G)):RG E ops (Exit.then (Code.ret.wpIn (fw E.r) 0 E.P af) af) [⟨some aN,.assign (.tmp x),ty,pos,after,none⟩] O G:=lI h (fh k)
def bN{id:Nat}{y z:Code}(h:RG E l.toArray (Exit.then (y.wpIn (fw E.r) 0 E.P (Exit.then (z.wpIn (fw E.r) 0 E.P af) af)) (Exit.then (z.wpIn (fw E.r) 0 E.P af) af)) l O G):CG E af (.seq (.seq (.region id l.toArray false) y) z) O G:=aE (bA h)
def aQ{id x:Nat}{y:Code}(h:wS E.N.n aN (look G x)=some t)(k:RG E ((⟨some aN,.move (.tmp x),ty,pos,after,none⟩::l).toArray) (Exit.then (y.wpIn (fw E.r) 0 E.P af) af) l O ((aN,t)::G)):
  CG E af (.seq (.region id (⟨some aN,.move (.tmp x),ty,pos,after,none⟩::l).toArray false) y) O G:=bA (bC h k)
def jE{α β:Type _}{a:Option α}{f:α->Option β}{R:β}{xs:List Operand}{u:α->Ty}(h:a.bind f=some R)(hc:aj E.P fid=true)(hs: ∀{y},a=some y->dZ E.P fid ts (u y))(D:j3 E.N G xs ts)(k: ∀y,f y=some R->RG E ops af l O ((aN,u y)::G))(hd:Nat.blt aN E.N.n=true:=by exact rfl):RG E ops af (⟨some aN,.call ⟨.value (.func fid),xs.toArray,ats⟩,ty,pos,after,none⟩::l) O G:=
 cV h fun y hy h=>fL (bH hc (hs hy) D) hd (k y h)
def Qi{α β:Type _}{γ:Type}{a:Option α}{f:α->Option β}{R:β}{r:Rp γ}{zs:α->List γ}{xs:List Operand}(h:a.bind f=some R)(hc:aj E.P fid=true)(hs: ∀{y},a=some y->lH E.P fid ts false r T (zs y))(D:j3 E.N G xs ts)(k: ∀y,f y=some R-> ∀b cap,RG E ops af l (dv r T b cap (zs y)::O) ((aN,Z (Y b cap (zs y).length))::G))(hd:Nat.blt aN E.N.n=true:=by exact rfl):
  RG E ops af (⟨some aN,.call ⟨.value (.func fid),xs.toArray,ats⟩,ty,pos,after,none⟩::l) O G:=cV h fun y hy h=>VO hc (hs hy) D hd (k y h)
def eP{e:α}{id:Nat}(D:xs.drop i=e::tl)(hN:xs.length<=maxLen)(h:wS E.N.n aN (look G a)=some (K (rI .i64) (i:Int)))(k:AT E af .normal O ((d2,K (rI .i64) ((i+1:Nat):Int))::(aN,K (rI .i64) ((i+1:Nat):Int))::G))(V:wS E.N.n d2 (look ((aN,K (rI .i64) ((i+1:Nat):Int))::G) b)=some (K (rI .i64) ((i+1:Nat):Int)):=by exact rfl):
  AT E (Exit.inBlock id (Exit.then ((Code.region id' [⟨some aN,.binOp .add xt (.tmp a) (.const (.int .i64 1)) yt,ty,pos,after,none⟩,⟨some d2,.move (.tmp b),ty2,pos2,after2,none⟩].toArray false).wpIn (fw E.r) 0 E.P af) af)) .normal O G:=
 bW<|aC<|aO<|zo (dY h).1 (zin (A1 D hN) (dY h).2)<|bC V<|bu k
def aah{e:α}{b2 d3 id:Nat}{ty3:TypeId}{pos3:String}{after3:Array Edge}(D:xs.drop i=e::tl)(hN:xs.length<=maxLen)(h:wS E.N.n aN (look G a)=some (K (rI .i64) (i:Int)))(k:AT E af .normal O ((d3,K (rI .i64) ((i+1:Nat):Int))::(d2,K (rI .i64) ((i+1:Nat):Int))::(aN,K (rI .i64) (i:Int))::G))(A:wS E.N.n d2 (look ((aN,K (rI .i64) (i:Int))::G) b)=some (K (rI .i64) (i:Int)):=by exact rfl)(V:wS E.N.n d3 (look ((d2,K (rI .i64) ((i+1:Nat):Int))::(aN,K (rI .i64) (i:Int))::G) b2)=some (K (rI .i64) ((i+1:Nat):Int)):=by exact rfl):
  AT E (Exit.inBlock id (Exit.then ((Code.region id' [⟨some aN,.move (.tmp a),ty,pos,after,none⟩,⟨some d2,.binOp .add xt (.tmp b) (.const (.int .i64 1)) yt,ty2,pos2,after2,none⟩,⟨some d3,.assign (.tmp b2),ty3,pos3,after3,none⟩].toArray false).wpIn (fw E.r) 0 E.P af) af)) .normal O G:=
 bW<|aC<|aO<|bC h<|zo (dY A).1 (zin (A1 D hN) (dY A).2)<|lI V<|bu k
section
variable{e:α}{q1 q2 d3 d4 id:Nat}{ty3 ty4 u:TypeId}{pos3 pos4:String}{after3 after4:Array Edge}{z w:Code}
end
end
variable{P:Program}
section
variable{l:List Oper}
def AE(r:Rp α)(k:RG E ops af l O ((aN,K (fJ r) [])::G))(hd:Nat.blt aN E.N.n=true:=by exact rfl):RG E ops af (⟨some aN,.assign (.const (.slice none 0 0)),ty,pos,after,none⟩::l) O G:=zo hd (cR aaZ) k
def eK{β:Type _}{X aa:Option β}{r:β}{x y:Code}{b:Bool}(h:(if b=true then X else aa)=some r)(H:look G c=some (K rB b))(D:X=some r->CG E af x O G)(hy:aa=some r->CG E af y O G):
  RG E ops (Exit.then ((Code.cond (.tmp c) x y).wpIn (fw E.r) 0 E.P af) af) [] O G:=co (u7 h H D hy)
def ej{id:Nat}{tD:Act->World->Prop}(h:AT E af .ret O G):AT E (Exit.inBlock id (Exit.then tD af)) .ret O G:=JX (an h)
def iG{n:Int}(k:AT E af .ret O ((aN,K (rI j) n)::G))(hd:Nat.blt aN E.N.n=true:=by exact rfl):RG E ops (Exit.then (Code.ret.wpIn (fw E.r) 0 E.P af) af) [⟨some aN,.assign (.const (.int j n)),ty,pos,after,none⟩] O G:=zo hd zai (fh k)
def fc{f:FuncId}{fn:Func}{c:Code}{t:Ty}{N:Nat}(hf:P.funcs[f]? =some fn)(H:(fn.body,fn.ntmps,Nat.ble ts.length fn.ntmps)=(some c,N,true))(h: ∀{w0 S0},CG ⟨P,⟨N,[]⟩,uc,w0,S0,none⟩ (bodyPost P fn (Pr ⟨P,⟨N,[]⟩,uc,w0,S0,none⟩ t)) c [] (AX 0 ts)):dZ P f ts t:=by
 obtain⟨A,V⟩:=yp H
 obtain⟨V,h3⟩:=yp V
 subst V
 exact dZ.of hf A rfl h3 fun _ _=>h
section
def aai{G:lY}{t:Ty}:look ((k,t)::G) k=some t:=by simp [look]
def kO{x:Nat}{u:Ty}(h:ts[i]? =some u)(hu:look G x=some u)(H:([(⟨x,u,none⟩:Nd)].all (pH l ⟨dst,.move (.tmp x),ty,pos,after,g⟩ i)&&fK i ⟨dst,.move (.tmp x),ty,pos,after,g⟩&&g.isNone)=true:=by exact rfl):
  ∃(needs:List Nd) (t:Ty),ts[i]? =some t/\tm G ts needs/\(needs.all (pH l ⟨dst,.move (.tmp x),ty,pos,after,g⟩ i))=true/\fK i ⟨dst,.move (.tmp x),ty,pos,after,g⟩=true/\bj E O l.toArray (j9 needs) ⟨dst,.move (.tmp x),ty,pos,after,g⟩ t:=
 DF x h hu (jM aai) H
def wc{v:α}{x sz:Nat}(j:Nat)(ti:TI E.P U sz bytes agg z)(h:ts[i]? =some (K r v))(hu:ts[j]? =some (bt r v))(hs:(r.sz,r.agg)=(sz,agg):=by exact rfl)(H:([(⟨x,bt r v,some j⟩:Nd)].all (pH l ⟨dst,.load U (.tmp x),ty,pos,after,g⟩ i)&&fK i ⟨dst,.load U (.tmp x),ty,pos,after,g⟩&&g.isNone)=true:=by exact rfl):
  ∃(needs:List Nd) (t:Ty),ts[i]? =some t/\tm G ts needs/\(needs.all (pH l ⟨dst,.load U (.tmp x),ty,pos,after,g⟩ i))=true/\fK i ⟨dst,.load U (.tmp x),ty,pos,after,g⟩=true/\bj E O l.toArray (j9 needs) ⟨dst,.load U (.tmp x),ty,pos,after,g⟩ t:=
 mU x j h hu (wx ti aai hs) H
end
end

structure Tl{κ:Type} [DecidableEq κ](P:Program)(kt:TypeId)(kv:κ->Value):Prop where
 chk: ∀e w k,(Instr.checkKey e 10000 kt (kv k)).run P w= .ok () w
 eql: ∀w a b,(Op.equal kt (kv a) (kv b)).run P w= .ok (decide (a=b)) w
 wide:(match P.underlying kt with|some (.array _ _)|some (.struct _)=>true|_=>false)=true
 same: ∀k,Instr.sameBits 10000 (kv k) (kv k)=true
 inj: ∀a b,kv a=kv b->a=b
def WF(p:Int×Int):Value:= .agg #[.int .i64 p.1,.int .i64 p.2]
def k2(l:List Int):Int×Int:=(l.getD 0 0,l.getD 1 0)
variable{cs:List Value}{kt:TypeId}
def aaT{kt el sz:Nat}(h:P.underlying kt=some (.array 2 el))(he:P.underlying el=some (.int .i64))(ti:TI P el sz bytes agg z)(hsz:Nat.beq sz 1=true)(hq:NC P kt (n7 (rI .i64) 2)):Tl P kt WF where
 chk:=fun e w k=>by
  obtain⟨i,zv,hi,hs,_⟩:=ti.get
  have A:sz=1:=pF hsz
  have ha:(isAgg el).run P w= .ok false w:=by
   simp [isAgg,jx he,Result.andThen]
  have h3: ∀(j:Nat) (x:Int) (cs:Array Value),cs[j]? =some (.int .i64 x)->(part el cs (j*i.size)).run P w= .ok (.int .i64 x) w:=fun j x cs hj=>by
   simp [part,ha,Result.andThen,hs,A,hj]
  have h4: ∀x:Int,(Instr.checkKey e 9999 el (.int .i64 x)).run P w= .ok () w:=fun x=>by
   show(Instr.checkKey e (9998+1) el (.int .i64 x)).run P w= .ok () w
   unfold Instr.checkKey
   simp only [qZ,jx he,sq]
   rfl
  have e1:=h3 0 k.1 #[.int .i64 k.1,.int .i64 k.2] rfl
  have e2:=h3 1 k.2 #[.int .i64 k.1,.int .i64 k.2] rfl
  show(Instr.checkKey e (9999+1) kt (WF k)).run P w= .ok () w
  unfold Instr.checkKey
  simp only [WF,qZ,jx h,sq,Std.Legacy.Range.forIn_eq_forIn_range',Std.Legacy.Range.size,Nat.sub_zero,Nat.add_sub_cancel,Nat.div_one,List.range'_succ,List.range'_zero,List.forIn_cons,List.forIn_nil,sizeOf,typeInfo,hi,EK,Nat.zero_mul,rj,Nat.one_mul]
  simp only [Nat.zero_mul,Nat.one_mul]at e1 e2
  simp [e1,e2,h4,Result.andThen,hi]
 eql:=fun w a b=>by
  have:=hq.run (fun _=>none) [.int .i64 a.1,.int .i64 a.2] [.int .i64 b.1,.int .i64 b.2] [a.1,a.2] [b.1,b.2] 9980 w ⟨rfl,[_],[_],rfl,rfl,[_],[],rfl,rfl,rfl⟩ ⟨rfl,[_],[_],rfl,rfl,[_],[],rfl,rfl,rfl⟩
  have e1:decide (([a.1,a.2]:List Int)=[b.1,b.2])=decide (a=b):=by
   obtain⟨a1,a2⟩:=a;obtain⟨b1,b2⟩:=b;simp
  rw [e1]at this
  show(Op.equalIn (9980+20) kt (WF a) (WF b)).run P w=_
  exact this
 wide:=by rw [h]
 same:=fun k=>by
  show Instr.sameBits (9999+1) (WF k) (WF k)=true
  unfold Instr.sameBits WF
  simp only [List.zip_cons_cons,List.zip_nil_left,sn,List.all_nil]
  unfold Instr.sameBits
  simp
 inj:=fun a b h=>by
  obtain⟨a1,a2⟩:=a;obtain⟨b1,b2⟩:=b
  simpa [WF] using h
variable{S:SH}{kv:κ->Value}
section
variable [DecidableEq κ]{k:κ}
def O8{w:World}{S:SH}{k:κ}(hk:Tl P kt kv): ∀{es:List MapEntry} {m:List (κ×β)} (i:Nat),vz γ kv S es m->
  ∃u,(Instr.findAsking kt (kv k) es i).run P w= .ok u w/\((u=none/\(∀x∈es,x.key≠kv k)/\fj m k=none)\/ ∃(j:Nat) (e:MapEntry) (y:β),u=some (i+j,e.val)/\es[j]? =some e/\e.key=kv k/\fj m k=some y/\(γ y).p S e.val)
 |[],[],i,_=>⟨none,by simp [Instr.findAsking],.inl ⟨rfl,fun x D=>(by cases D),rfl⟩⟩
 |e::es,q::m,i,⟨A,V,h3,h4⟩=>by
  by_cases hq:k=q.1
  ·subst hq
   refine⟨some (i,e.val),?_,.inr ⟨0,e,q.2,rfl,rfl,A,by unfold fj;rw [bv rfl],V⟩⟩
   unfold Instr.findAsking
   simp [A,hk.eql,Result.andThen]
  ·obtain⟨u,g1,g2⟩:=O8 hk (k:=k) (w:=w) (i+1) h4
   refine⟨u,?_,?_⟩
   ·unfold Instr.findAsking
    simp [A,hk.eql,hq,Result.andThen,g1]
   ·have hm:fj (q::m) k=fj m k:=by conv=>lhs;unfold fj;rw [bm (fun e=>hq e.symm)]
    rw [hm]
    rcases g2 with⟨e1,e2,e3⟩|⟨j,e',y,e1,e2,e3,e4,e5⟩
    ·refine .inl ⟨e1,fun x D=>?_,e3⟩
     rcases f7.1 D with rfl|D
     ·rw [A];exact fun e=>hq (hk.inj _ _ e).symm
     ·exact e2 x D
    ·exact .inr ⟨j+1,e',y,by rw [e1];congr 2;omega,by simpa using e2,e3,e4,e5⟩
def QN{q k:κ}{y:β}(hk:q≠k): ∀(m:List (κ×β)),(∀p∈m,p.1≠q)-> ∀p∈ga m k y,p.1≠q:=by
 intro m
 induction m with
 |nil=>intro _ p hp;rw [A9.1 hp];exact fun e=>hk e.symm
 |cons p0 m ih=>
  intro hm p hp
  unfold ga at hp
  split at hp
  ·rcases f7.1 hp with rfl|hp
   ·exact fun e=>hk e.symm
   ·exact hm p (li _ hp)
  ·rcases f7.1 hp with rfl|hp
   ·exact hm _ (lg ..)
   ·exact ih (fun p hp=>hm p (li _ hp)) p hp
def HP(hinj: ∀a b,kv a=kv b->a=b){y:β}{v:Value}{born:Nat}(hv:(γ y).p S v): ∀{es:List MapEntry} {m:List (κ×β)},vz γ kv S es m->(∀x∈es,x.key≠kv k)->vz γ kv S (es++[⟨kv k,v,born⟩]) (ga m k y)
 |[],[],_,_=>⟨rfl,hv,fun _ h=>(by cases h),trivial⟩
 |e::es,q::m,⟨A,V,h3,h4⟩,hn=>by
  have hq:q.1≠k:=fun e' =>hn e (lg ..) (by rw [A,e'])
  have hm:ga (q::m) k y=q::ga m k y:=by conv=>lhs;unfold ga;rw [bm hq]
  rw [hm]
  exact⟨A,V,QN hq m h3,HP hinj hv h4 fun x D=>hn x (li _ D)⟩
def JJ(hinj: ∀a b,kv a=kv b->a=b){y:β}{v:Value}(hv:(γ y).p S v): ∀{es:List MapEntry} {m:List (κ×β)},vz γ kv S es m-> ∀j e,es[j]? =some e->e.key=kv k->vz γ kv S (es.modify j fun e=>{e with key:=kv k,val:=v}) (ga m k y)
 |[],[],_,j,e,he,_=>by cases he
 |e0::es,q::m,⟨A,V,h3,h4⟩,j,e,he,hek=>by
  cases j with
  |zero=>
   have he' :e0=e:=nR he
   subst he'
   have hq:q.1=k:=hinj _ _ (by rw [<-A,hek])
   have hm:ga (q::m) k y=(k,y)::m:=by conv=>lhs;unfold ga;rw [bv hq]
   rw [hm,List.modify_zero_cons]
   exact⟨rfl,hv,fun p hp=>by rw [<-hq];exact h3 p hp,h4⟩
  |succ j=>
   have he' :es[j]? =some e:=by simpa using he
   obtain⟨y',hy'⟩: ∃q' ∈m,q'.1=k:=by
    have hmem: ∀{es:List MapEntry} {m:List (κ×β)},vz γ kv S es m-> ∀(j:Nat) (e:MapEntry),es[j]? =some e->e.key=kv k-> ∃q' ∈m,q'.1=k:=by
     intro es
     induction es with
     |nil=>intro m _ j e he _;simp at he
     |cons e1 es ih=>
      intro m hm j e he hek
      cases m with
      |nil=>exact hm.elim
      |cons q1 m=>
       obtain⟨g1,_,_,g4⟩:=hm
       cases j with
       |zero=>
        have e2:e1=e:=nR he
        subst e2
        exact⟨q1,lg ..,hinj _ _ (by rw [<-g1,hek])⟩
       |succ j=>
        obtain⟨q',a1,a2⟩:=ih g4 j e (by simpa using he) hek
        exact⟨q',li _ a1,a2⟩
    exact hmem h4 j e he' hek
   have hq:q.1≠k:=fun e' =>h3 y' hy'.1 (by rw [hy'.2,e'])
   have hm:ga (q::m) k y=q::ga m k y:=by conv=>lhs;unfold ga;rw [bm hq]
   rw [hm,E9]
   exact⟨A,V,QN hq m h3,JJ hinj hv h4 j e he' hek⟩
def eQ(γ:β->Ty)(kv:κ->Value)(b:Nat)(m:List (κ×β)):OE where
 fp:=fun j=>j=b
 p:=fun w S=>S b=none/\ ∃es clock,w.heap[b]? =some (.map es clock)/\vz γ kv S es.toList m
 here:=by
  intro w S ⟨_,es,clock,h3,_⟩ j hj
  subst hj
  exact(Bb.1 h3).1
 kept:=by
  intro C w w' S S' ⟨A,es,clock,h3,h4⟩ k hC
  have hlt:=(Bb.1 h3).1
  exact⟨by rw [k.old b hlt (hC b rfl)];exact A,es,clock,by rw [k.heap b hlt (hC b rfl)];exact h3,xm k.keep h4⟩
end
variable{et:TypeId}{rest:List Oper}
section
variable [DecidableEq κ]{k:κ}{i:Operand}{dst:Option Nat}
def Nk(γ:β->Ty)(kv:κ->Value)(hd:Nat.blt aN E.N.n=true)(k: ∀b,RG E ops af rest (eQ γ kv b []::O) ((aN,Z (au b))::G)):
  RG E ops af (⟨some aN,.makeMap t none,ty,pos,after,none⟩::rest) O G:= .of rfl fun a w S st=>by
 obtain⟨he,hs',hno⟩:=kL (w:=w) (.map #[] 0) st.sat
 have hrun:(execOp a.eval ⟨some aN,.makeMap t none,ty,pos,after,none⟩).run E.P w= .ok (.value (au w.heap.size)) (w.alloc (.map #[] 0)):=by
  simp [execOp,Instr.makeMap,au]
 refine⟨fun c h=>(by cases h),?_⟩
 rw [hrun]
 exact k w.heap.size _ _ S ⟨st.ext.step0 he,hs',tJ st.own he ⟨hno,#[],0,Az w _,trivial⟩ (fun b H=>EF H.symm) st.base_le,st.facts.put hd rfl⟩
def XM{y:β}(hm:E.P.underlying t=some (.map kt et))(hk:Tl E.P kt kv)(D:aL E.N G x (Z (au b)))(hi:xW E.N G i (kv k))(hv:aL E.N G v (γ y))
  (h:RG E ops af rest (eQ γ kv b (ga m k y)::O) G):RG E ops af (⟨none,.mapUpdate t x i v,ty,pos,after,none⟩::rest) (eQ γ kv b m::O) G:= .of rfl fun a w S st=>by
 have A:a.eval x=au b:=D S a st.facts
 have V:a.eval i=kv k:=hi S a st.facts
 have h3:(γ y).p S (a.eval v):=hv S a st.facts
 obtain⟨⟨hno,es,clock,h5,h6⟩,_⟩:=st.own.1
 have hlt:=(Bb.1 h5).1
 obtain⟨u,g1,g2⟩:=O8 hk (k:=k) (w:=w) 0 h6
 have hfk:(Instr.findKey kt (kv k) es.toList).run E.P w= .ok u w:=by rw [run_findKey_eq w hk.wide];exact g1
 obtain⟨X,hrun,hX⟩: ∃X:Obj,(Instr.mapUpdate t (au b) (kv k) (a.eval v)).run E.P w= .ok () {w with heap:=w.heap.setIfInBounds b X}/\ ∃es' cl',X= .map es' cl' /\vz γ kv S es'.toList (ga m k y):=by
  rcases g2 with⟨rfl,g3,g4⟩|⟨j,e,y',rfl,g3,g4,_,_⟩
  ·refine⟨.map (es.push ⟨kv k,a.eval v,clock⟩) (clock+1),?_,_,_,rfl,by rw [Array.toList_push];exact HP hk.inj h3 h6 g3⟩
   simp [Instr.mapUpdate,au,jx hm,ET h5,hk.chk,hfk,Result.andThen,Qd _ h5]
  ·refine⟨.map (es.modify j fun e=>{e with key:=kv k,val:=a.eval v}) clock,?_,_,_,rfl,by rw [Array.toList_modify];exact JJ hk.inj h3 h6 j e g3 g4⟩
   have hgd:((es[j]?).map (·.key)).getD (kv k)=kv k:=by
    rw [<-Qa,g3];exact g4
   simp only [rj]at hfk
   simp [Instr.mapUpdate,au,jx hm,ET h5,hk.chk,hfk,Result.andThen,hgd,Instr.keyThatStays,hk.same,Qd _ h5]
 have hrun' :(execOp a.eval ⟨none,.mapUpdate t x i v,ty,pos,after,none⟩).run E.P w= .ok .skip {w with heap:=w.heap.setIfInBounds b X}:=by simp [execOp,A,V,hrun]
 obtain⟨es',cl',rfl,h7⟩:=hX
 refine⟨fun c h=>(by cases h),?_⟩
 rw [hrun']
 obtain⟨q1,q2⟩:=MapKept.heap_set (o' := .map es' cl') h5
 obtain⟨f1,f2,f3⟩:=ll (O:=O) st.sat (w' :={w with heap:=w.heap.setIfInBounds b (.map es' cl')}) (eQ γ kv b m) (eQ γ kv b (ga m k y)) st.own (fun _=>ul) (fun _=>ul) ⟨rfl,rfl,rfl,by simp,gu _⟩ (fun j hj=>q2 j hj) ⟨hno,es',cl',q1,h7⟩ hno
 exact h _ _ S ⟨st.ext.step f1 (fun c hc=>st.own.1.2 c hc),f2,f3,st.facts⟩
end

section
variable [DecidableEq κ]{k:κ}{i:Operand}{dst:Option Nat}
end
variable{os:Array Obj}
section
variable [DecidableEq κ]{h2:MV β}{os:List (Option Nat×Nat)}{h:Option κ}{dst:Option Nat}
end
section
variable{e:Exit}
end


structure RM{α β:Type}(tD:Nat)(F:Rp α->Rp β):Prop where
 sz: ∀r r',r.sz=tD->r'.sz=tD->(F r).sz=(F r').sz
 mono: ∀r r',r.sz=tD->r'.sz=tD->(∀S cs x,r.rc S cs x->r'.rc S cs x)-> ∀S cs x,(F r).rc S cs x->(F r').rc S cs x
 cont: ∀(R:Nat->Rp α),(∀n,(R n).sz=tD)->(∀n S cs x,(R n).rc S cs x->(R (n+1)).rc S cs x)-> ∀r,r.sz=tD->(∀S cs x,r.rc S cs x-> ∃n,(R n).rc S cs x)-> ∀S cs x,(F r).rc S cs x-> ∃n,∀m,n<=m->(F (R m)).rc S cs x
def RM.map{γ:Type}{tD:Nat}{F:Rp α->Rp β}(f:γ->β)(h:RM tD F):RM tD (fun r=>j4 (F r) f):=
 ⟨fun r r' A V=>h.sz r r' A V,fun r r' A V h3 S cs x q=>h.mono r r' A V h3 S cs (f x) q,fun R hR up r hr h3 S cs x q=>h.cont R hR up r hr h3 S cs (f x) q⟩

section
variable{c:Code}{e:Exit}
end

variable{ys:List α}
section
def Qz{q:Rp α}(hq:q.sz=1){m:Nat}(h:qc q S cs xs)(hm:m<=xs.length):qc q S (cs.take m) (xs.take m)/\qc q S (cs.drop m) (xs.drop m):=by
 have:=pZ (xs:=xs.take m) (ys:=xs.drop m) (by rw [ra];exact h)
 rwa [ym,A7 hm,hq,F5]at this
def vB{α:Type}(xs ys:List α):List α:=ys.take xs.length++xs.drop (min ys.length xs.length)
def xp:(vB xs ys).length=xs.length:=by
 unfold vB
 simp
 omega
end
variable{mm:Bool}
section
variable{c:Code}
def RK{lo hi:Int}(hs:dH xs lo hi=some ys)(h:Ax mm r U l cap xs w S)(hS:lV w S): ∃S1,lV w S1/\(K (fJ r) ys).p S1 (nS r.sz l cap lo.toNat ys.length):=by
 obtain⟨S1,_,k2,hd⟩:=acs h hS
 refine⟨S1,k2,?_⟩
 obtain⟨l',m,rfl,rfl,h7,h8,rfl⟩:=gT hs
 obtain⟨ad,c,A,V,h3,h4⟩:=m4.1 hd
 have hlen:((xs.take m).drop l').length=m-l' :=by simp;omega
 cases l with
 |none=>
  obtain⟨cells,g1,_⟩:=h
  have D:xs=[]:=wA g1.1
  subst D
  have e:((([]:List α).take m).drop l')=[]:=by simp
  rw [e]
  exact Cr
 |some b=>
  have e1:Value.slice (some ⟨b,0,none⟩) xs.length cap= .slice ad xs.length c:=A
  injection e1 with e2 _ e3
  subst e2
  subst e3
  have h5:=Bk h4 h7 h8 V
  refine m4.2 ⟨_,cap-l',?_,by omega,by omega,h5⟩
  unfold nS
  simp only [wy,hlen,EN,iU,rj]
  split<;>rfl
def Wh{sz:Nat}(ti:TI P T sz bytes agg z):(P.info? T).map (·.size)=some sz:=by
 obtain⟨i,_,hi,hs,_⟩:=ti.get
 simp [hi,hs]
def Se{α:Type}:Rp α where
 sz:=1
 agg:=false
 rc:=fun _ cs _=> ∃v,cs=[v]/\v.oneCell' =true
 mono:=fun _ h=>h
 len:=fun⟨v,h,_⟩=>by rw [h];rfl
 one:=fun⟨v,h,k⟩ c hc=>by rw [h]at hc;simp at hc;subst hc;exact k
 sc:=fun _=>rfl
def nl{l:List α}{e:α}(h:xs.drop i=e::l):(i:Int)<(xs.length:Int):=by
 have:=congrArg List.length h
 simp at this
 omega
def iw{n:Nat}{ix:Operand}{k:IntKind}{i:Int}{sz:Nat}(M:E.P.underlying t=some (.slice e))(ti:TI E.P e sz bytes agg z)(hm:ku mm r U l cap xs∈O)(D:aL E.N G x (Z (Y l cap n)))(hi:aL E.N G ix (K (rI k) i))(hy:ep xs i=some y)(hlt:i<(n:Int)):
  ce E O G ⟨dst,.indexAddr t x ix,ty,pos,after,g⟩ (Z (bh l (i.toNat*sz+0))):=
 .of_pure fun a w S _ ho hf=>by
  have A:a.eval x=Y l cap n:=D S a hf
  have h3:a.eval ix= .int k i:=f8.1 (hi S a hf)
  obtain⟨h0,hy'⟩:=eM hy
  obtain⟨b,cur,rfl,_⟩:=nE (ho.mem _ hm).1 hy'
  refine⟨_,?_,rfl⟩
  have hc:0<=i/\i<(n:Int):=⟨h0,hlt⟩
  simp [execOp,A,h3,Y,Instr.indexAt,asIntOf,jx M,hc,ti.sizeOf,iU,bh,al]
end

def HS(h:vB xs ys=zs):zs.length=xs.length:=by rw [<-h,xp]

def kj(p:cj×cj):Value:= .agg #[ez p.1,ez p.2]
def act{kt el sz:Nat}{l:Array Field} [DecidableEq α]{mk:cj×cj->α}(h:P.underlying kt=some (.struct l))(hl:l.toList.map (fun f=>(f.type,f.offset))=[(el,0),(el,1)])(he:P.underlying el=some .string)(ti:TI P el sz bytes agg z)(hsz:Nat.beq sz 1=true)(hag:r.agg=true)(hr: ∀p:cj×cj,r.rc (fun _=>none) [ez p.1,ez p.2] (mk p))(hinj: ∀p q,mk p=mk q->p=q)(hq:NC P kt r):Tl P kt kj where
 chk:=fun e w k=>by
  obtain⟨i,zv,hi,hs,_⟩:=ti.get
  have A:sz=1:=pF hsz
  have ha:(isAgg el).run P w= .ok false w:=by
   simp [isAgg,jx he,Result.andThen]
  have h3: ∀(j:Nat) (x:cj) (cs:Array Value),cs[j]? =some (ez x)->(part el cs j).run P w= .ok (ez x) w:=fun j x cs hj=>by
   simp [part,ha,Result.andThen,hj]
  have h4: ∀x:cj,(Instr.checkKey e 9999 el (ez x)).run P w= .ok () w:=fun x=>by
   show(Instr.checkKey e (9998+1) el (ez x)).run P w= .ok () w
   unfold Instr.checkKey
   simp only [qZ,jx he,sq]
   rfl
  have e1:=h3 0 k.1 #[ez k.1,ez k.2] rfl
  have e2:=h3 1 k.2 #[ez k.1,ez k.2] rfl
  obtain⟨l0,rfl⟩: ∃l0:List Field,l=l0.toArray:=⟨l.toList,by simp⟩
  have hlen:l0.length=2:=by simpa using congrArg List.length hl
  obtain⟨f0,f1,rfl⟩: ∃f0 f1,l0=[f0,f1]:=by
   match l0,hlen with
   |[a,b],_=>exact⟨a,b,rfl⟩
  simp only [pE,EH,List.cons.injEq,EM,and_true]at hl
  obtain⟨⟨a0,b0⟩,⟨a1,b1⟩⟩:=hl
  show(Instr.checkKey e (9999+1) kt (kj k)).run P w= .ok () w
  unfold Instr.checkKey
  simp only [kj,qZ,jx h,sq]
  by_cases n0:f0.name= "_" <;>by_cases n1:f1.name= "_" <;>simp [n0,n1,a0,a1,b0,b1,e1,e2,h4,Result.andThen]
 eql:=fun w a b=>by
  have:=hq.run (fun _=>none) _ _ _ _ 9980 w (hr a) (hr b)
  have e1:decide (mk a=mk b)=decide (a=b):=Ap.2 ⟨fun e=>hinj a b e,fun e=>by rw [e]⟩
  rw [e1]at this
  have hv: ∀p:cj×cj,r.val [ez p.1,ez p.2]=kj p:=fun p=>by simp [Rp.val,hag,kj]
  rw [hv,hv]at this
  show(Op.equalIn (9980+20) kt (kj a) (kj b)).run P w=_
  exact this
 wide:=by rw [h]
 same:=fun k=>by
  show Instr.sameBits (9999+1) (kj k) (kj k)=true
  unfold Instr.sameBits kj ez
  simp only [List.zip_cons_cons,List.zip_nil_left,sn,List.all_nil]
  unfold Instr.sameBits
  simp
  have H: ∀l:ByteArray,(l==l)=true:=fun l=>by
   cases l with
   |mk aN=>exact(AB aN:(aN==aN)=true)
  exact⟨H _,H _⟩
 inj:=fun a b h=>by
  obtain⟨a1,a2⟩:=a;obtain⟨b1,b2⟩:=b
  simpa [kj,ez] using h
section
variable [DecidableEq κ]{k:κ}{i:Operand}{dst:Option Nat}
def UM{x:Operand}{p:cj×cj}(hag:r.agg=true)(hr: ∀S cs,r.rc S cs y->cs=[ez p.1,ez p.2])(h:aL N G x (K r y)):xW N G x (kj p):=fun S a hf=>by
 obtain⟨cs,e,A⟩:=h S a hf
 rw [e,hr S cs A]
 simp [Rp.val,hag,kj]
def Mb{z:β}{zv:Value}(hm:E.P.underlying t=some (.map kt et))(hk:Tl E.P kt kv)(hz:ZV E.P et zv)(hzt: ∀S,(γ z).p S zv)(hmem:eQ γ kv b m∈O)(D:aL E.N G x (Z (au b)))(hi:xW E.N G i (kv k)):
  ce E O G ⟨dst,.lookup t x i true,ty,pos,after,g⟩ (tT [γ ((fj m k).getD z),K rB (fj m k).isSome]):= .of_pure fun a w S hs ho hf=>by
 obtain⟨⟨_,es,clock,h3,h4⟩,_⟩:=du.mem ho _ hmem
 have A:a.eval x=au b:=D S a hf
 have V:a.eval i=kv k:=hi S a hf
 obtain⟨u,g1,g2⟩:=O8 hk (k:=k) (w:=w) 0 h4
 have hfk:(Instr.findKey kt (kv k) es.toList).run E.P w= .ok u w:=by rw [run_findKey_eq w hk.wide];exact g1
 rcases g2 with⟨rfl,_,g3⟩|⟨j,e,y,rfl,_,_,g3,g4⟩
 ·refine⟨.tuple #[zv,.bool false],?_,_,rfl,by rw [g3];exact hzt S,by rw [g3];exact jy.2 rfl,trivial⟩
  simp [execOp,A,V,Instr.lookup,au,jx hm,ET h3,hk.chk,hfk,hz.run,Result.andThen]
 ·refine⟨.tuple #[e.val,.bool true],?_,_,rfl,by rw [g3];exact g4,by rw [g3];exact jy.2 rfl,trivial⟩
  simp [execOp,A,V,Instr.lookup,au,jx hm,ET h3,hk.chk,hfk,Result.andThen]
def SR{os:List (Option Nat×Nat)}{m:List (κ×List α)}(hm:E.P.underlying t=some (.map kt et))(hk:A4 E.P kt kv)(hz:ZV E.P et (.slice none 0 0))(D:aL E.N G x (Z (au b)))(hi:xW E.N G i (kv k)):
  EffOK E (bQ (X2 r T) kv b none os m::O) G ⟨some aN,.lookup t x i false,ty,pos,after,g⟩ (fun j=>d r T (j.h 0).1 (j.h 0).2 ((fj m k).getD [])::bQ (X2 r T) kv b (some k) j.os m::O) (fun j=>tO r (j.h 0).1 (j.h 0).2 ((fj m k).getD [])):=fun a w S hs ho hf H=>by
 obtain⟨⟨⟨hno,hnb,es,clock,h3,h4,hst⟩,hfp⟩,hap,hO⟩:=ho
 obtain⟨q,hq,hdk,hinj⟩:=hk
 have A:a.eval x=au b:=D S a hf
 have V:a.eval i=kv k:=hi S a hf
 obtain⟨os',p1,p2,h5⟩:=pT hdk hinj (k:=k) 0 h4
 have hn: ∀o∈os',o.1≠some b:=fun o ho=>by
  rcases p1 o ho with h|h
  ·exact hnb o h
  ·rw [h];exact fun e=>by cases e
 have hfp' : ∀j,(j=b\/ ∃o∈os',o.1=some j)->(j=b\/ ∃o∈os,o.1=some j):=fun j hj=>hj.imp id fun⟨o,ho,e⟩=>by
  rcases p1 o ho with h|h
  ·exact⟨o,h,e⟩
  ·rw [h]at e;cases e
 rcases h5 with⟨g1,g2⟩|⟨y,o,e,j,g1,g2,g3,g4,g5⟩
 ·have hrun:(execOp a.eval ⟨some aN,.lookup t x i false,ty,pos,after,g⟩).run E.P w= .ok (.value (.slice none 0 0)) w:=by simp [execOp,A,V,kF hm hq (hdk k) h3 hz g2]
  refine⟨fun c h=>(by cases h),?_⟩
  rw [hrun]
  exact⟨_,S,{h:=fun _=>(none,0),os:=os' },rfl,kx.refl _ _ _,hs,⟨⟨⟨[],⟨by rw [g1];rfl,rfl⟩,by rw [g1];rfl,fun b H=>(by cases H)⟩,fun j hj=>(by cases hj)⟩,fun f _ j hj=>(by cases hj),⟨⟨hno,hn,es,clock,h3,p2,hst⟩,fun j hj=>hfp j (hfp' j hj)⟩,fun f hf j hj=>hap f hf j (hfp' j hj),hO⟩,
   by rw [g1];rfl,by rw [g1];exact Cr⟩
 ·have hrun:(execOp a.eval ⟨some aN,.lookup t x i false,ty,pos,after,g⟩).run E.P w= .ok (.value e.val) w:=by simp [execOp,A,V,kF hm hq (hdk k) h3 hz g4]
  refine⟨fun c h=>(by cases h),?_⟩
  rw [hrun]
  have hy:(fj m k).getD []=y:=by rw [g1];rfl
  refine⟨_,S,{h:=fun _=>o,os:=os' },rfl,kx.refl _ _ _,hs,⟨⟨by rw [hy];exact g3.2,fun j hj=>hfp j (.inr ⟨o,g2,hj⟩)⟩,fun f hf j hj=>?_,⟨⟨hno,hn,es,clock,h3,p2,hst⟩,fun j hj=>hfp j (hfp' j hj)⟩,fun f hf j hj=>hap f hf j (hfp' j hj),hO⟩,
   by rw [hy];exact g3.1,by rw [hy,g3.1];exact mq g3.2⟩
  rcases f7.1 hf with rfl|hf
  ·intro hj'
   rcases hj' with rfl|⟨o',ho',e'⟩
   ·exact hnb o g2 hj
   ·exact g5 o' ho' j hj e'
  ·exact hap f hf j (.inr ⟨o,g2,hj⟩)
end
def Pu{q:Rp α}{y:Operand}{dT sT el:TypeId}(hq:q.sz=1)(hu:E.P.underlying dT=some (.slice el))(hs:(E.P.info? el).map (·.size)=some 1)(D:aL E.N G x (Z (Y l cap xs.length)))(hy: ∀a w S,lV w S->du E.base E.B w S (dv q U l cap xs::O)->de E.N S a G-> ∃S1,lV w S1/\(K (fJ q) ys).p S1 (a.eval y)/\ ∀cs zs,qc q S1 cs zs->qc q S cs (zs:List α))(hz:vB xs ys=zs):
  EffOK E (dv q U l cap xs::O) G ⟨some aN,.call ⟨.builtin .copy,#[x,y],#[dT,sT]⟩,ty,pos,after,g⟩ (fun _=>dv q U l cap zs::O) (fun _=>K (rI .i64) ((min ys.length xs.length:Nat):Int)):=fun a w S hs0 ho hf H=>by
 subst hz
 have A:a.eval x=Y l cap xs.length:=D S a hf
 obtain⟨S1,hs1,hy1,hback⟩:=hy a w S hs0 ho hf
 obtain⟨ad,cap',V,_,_,h3⟩:=m4.1 hy1
 obtain⟨⟨cells,hraw,hrc,hS⟩,hbase⟩:=ho.1
 have hm:min ys.length xs.length<=ys.length:=Nat.min_le_left _ _
 cases l with
 |none=>
  have hx0:xs=[]:=wA hraw.1
  subst hx0
  have hrun:(Builtin.copy_ #[dT,sT] ty #[.slice none 0 0,a.eval y]).run E.P w= .ok (goInt 0) w:=by
   rw [V]
   cases hel:E.P.info? el with
   |none=>simp [hel]at hs
   |some i=>
    have hi:i.size=1:=by simpa [hel] using hs
    cases ad with
    |none=>simp [Builtin.copy_,jx hu,Builtin.lenOf,Builtin.firstCells,sizeOf,typeInfo,hel,hi,storeCells]
    |some p=>
     have hl:=run_loadCells_list (P:=E.P) w p [] (fun j v hv=>by simp at hv)
     simp only [rk]at hl
     simp [Builtin.copy_,jx hu,Builtin.lenOf,Builtin.firstCells,sizeOf,typeInfo,hel,hi,storeCells,hl]
  have hx' :(execOp a.eval ⟨some aN,.call ⟨.builtin .copy,#[x,y],#[dT,sT]⟩,ty,pos,after,g⟩).run E.P w= .ok (.value (goInt 0)) w:=by
   have h1' :a.eval x= .slice none 0 0:=A
   simp [execOp,resolve,h1',invoke,builtin,hrun]
  refine⟨fun c h=>(by cases h),?_⟩
  rw [hx']
  refine⟨_,S,oA,rfl,kx.refl _ _ _,hs0,?_,?_⟩
  ·have e:vB ([]:List α) ys=[]:=by unfold vB;simp
   rw [e];exact ho
  ·exact f8.2 (by simp [goInt])
 |some b=>
  obtain⟨cur,g1,g2,g3,g4,g5⟩:=hraw
  rw [hq,F5]at g4 g5
  have h1' :a.eval x= .slice (some ⟨b,0,none⟩) xs.length cap:=A
  have hxl:xs.length<=cur.toList.length:=by simp [g4];exact g2
  obtain⟨cs,hcs,hrun,hlen⟩: ∃cs,qc q S cs (ys.take (min ys.length xs.length))/\(Builtin.copy_ #[dT,sT] ty #[.slice (some ⟨b,0,none⟩) xs.length cap,a.eval y]).run E.P w= .ok (goInt cs.length) (w.setRow b (cs++cur.toList.drop cs.length).toArray)/\cs.length=min ys.length xs.length:=by
   rw [V]
   rcases h3 with rfl|⟨b',off,c,T',fr,rfl,e2,e3⟩
   ·refine⟨[],by simp [qc],?_,by simp⟩
    cases hel:E.P.info? el with
    |none=>simp [hel]at hs
    |some i=>
     have hi:i.size=1:=by simpa [hel] using hs
     have hself:w.setRow b (([]:List Value)++cur.toList.drop ([]:List Value).length).toArray=w:=by simpa using setRow_self w b cur U (0,0) g1
     rw [hself]
     cases ad with
     |none=>simp [Builtin.copy_,jx hu,Builtin.lenOf,Builtin.firstCells,sizeOf,typeInfo,hel,hi,storeCells]
     |some p=>
      have hl:=run_loadCells_list (P:=E.P) w p [] (fun j v hv=>by simp at hv)
      simp only [rk]at hl
      simp [Builtin.copy_,jx hu,Builtin.lenOf,Builtin.firstCells,sizeOf,typeInfo,hel,hi,storeCells,hl]
   ·obtain⟨c',h8,h9⟩:=hs1.part e2 (lx e3)
    obtain⟨d1,d2⟩:=Qz hq e3 hm
    rw [B0,hq,F5,A7 hm]at d1
    have hl:((c.toList.drop off).take (min ys.length xs.length)).length=min ys.length xs.length:=by
     rw [lx d1,hq,F5,ym,A7 hm]
    refine⟨_,hback _ _ d1,?_,hl⟩
    have:=run_copy_row (P:=E.P) w dT sT ty el b 0 xs.length cap ⟨b',off,none⟩ ys.length cap' cur U ((c.toList.drop off).take (min ys.length xs.length)) hu hs g1 hl (fun j v hv=>?_) (by rw [hl];simp at hxl;omega) (CH d1)
    ·simpa using this
    ·have hj:j<min ys.length xs.length:=by rw [<-hl];exact(o5.1 hv).1
     have hcell:w.cell? ⟨b',off+j,none⟩=c'[off+j]? :=Ad h8 _
     rw [iU]
     show w.cell? ⟨b',off+j,none⟩=_
     rw [hcell]
     have h10:((c'.toList.drop off).take (ys.length*q.sz))[j]? =((c.toList.drop off).take (ys.length*q.sz))[j]? :=by rw [h9]
     rw [DA (by rw [hq];omega),DA (by rw [hq];omega),wz,wz]at h10
     rw [DA hj,wz]at hv
     rw [<-hv,<-Qa,h10]
  have hx' :(execOp a.eval ⟨some aN,.call ⟨.builtin .copy,#[x,y],#[dT,sT]⟩,ty,pos,after,g⟩).run E.P w= .ok (.value (goInt cs.length)) (w.setRow b (cs++cur.toList.drop cs.length).toArray):=by
   simp [execOp,resolve,h1',invoke,builtin,hrun]
  refine⟨fun c h=>(by cases h),?_⟩
  rw [hx']
  have hle:min ys.length xs.length<=xs.length:=Nat.min_le_right _ _
  have hrc' :qc q S (cur.toList.take xs.length) xs:=by rw [g5];exact hrc
  obtain⟨_,d4⟩:=Qz hq hrc' hle
  have hno:S b=none:=hS b rfl
  have hnew:Ax false q U (some b) cap (vB xs ys) (w.setRow b (cs++cur.toList.drop cs.length).toArray) S:=by
   refine⟨(cs++cur.toList.drop cs.length).take xs.length,⟨_,setRow_heap w b cur _ U _ g1,by rw [xp];exact g2,g3,?_,by rw [xp,hq,F5]⟩,?_,fun b' hb' =>by cases hb';exact hno⟩
   ·simp [hlen,hq];simp at hxl;omega
   ·unfold vB
    have e1:ys.take xs.length=ys.take (min ys.length xs.length):=by rw [List.take_eq_take_iff];omega
    have e2:(cs++cur.toList.drop cs.length).take xs.length=cs++(cur.toList.take xs.length).drop cs.length:=by
     rw [List.take_append,oB (by omega),yq]
    rw [e1,e2,hlen]
    exact uE hcs d4
  obtain⟨k1,k2,k3⟩:=ll (O:=O) hs0 (w' :=w.setRow b (cs++cur.toList.drop cs.length).toArray) (dv q U (some b) cap xs) (dv q U (some b) cap (vB xs ys)) ho (fun k=>by simp [dv,ku];exact eq_comm) (fun k=>by simp [dv,ku];exact eq_comm) ⟨rfl,rfl,rfl,by simp [World.setRow],gu _⟩ (fun k hk=>setRow_other w b k _ hk) hnew hno
  refine⟨_,S,oA,rfl,k1.more fun k hk=>⟨_,lg ..,by subst hk;rfl⟩,k2,k3,?_⟩
  rw [hlen]
  exact f8.2 rfl
def Pt{k:IntKind}{h2:TypeId}{l2:Option Nat}{cap2:Nat}{xs ys zs ws:List Int}{lo hi:Int}{y:Operand}{dT sT el:TypeId}(hm:ku mm (rI k) h2 l2 cap2 ws∈dv (rI k) U l cap xs::O)(hsl:dH ws lo hi=some ys)(hu:E.P.underlying dT=some (.slice el))(hs:(E.P.info? el).map (·.size)=some 1)(D:aL E.N G x (Z (Y l cap xs.length)))(hy:aL E.N G y (Z (nS 1 l2 cap2 lo.toNat ys.length)))(hz:vB xs ys=zs):
  EffOK E (dv (rI k) U l cap xs::O) G ⟨some aN,.call ⟨.builtin .copy,#[x,y],#[dT,sT]⟩,ty,pos,after,g⟩ (fun _=>dv (rI k) U l cap zs::O) (fun _=>K (rI .i64) ((min ys.length xs.length:Nat):Int)):=
 Pu rfl hu hs D (fun a w S hs0 ho hf=>by
  obtain⟨S1,A,V⟩:=RK hsl (du.mem ho _ hm).1 hs0
  refine⟨S1,A,?_,fun cs zs h=>by rw [G1 h];exact(G1 h)▸LY (fun h=>h) h⟩
  rw [show a.eval y=nS 1 l2 cap2 lo.toNat ys.length from hy S a hf]
  exact V) hz
abbrev Qh:Option Nat×Nat:=(none,0)
def WD(l:List (Option Nat×Nat))(os:List (List (Option Nat×Nat))):OI:={h:=fun n=>l.getD n (none,0),oss:=fun n=>os.getD n []}
def UW{get:α->Value}{x:α}(h:ju r off rV get)(k:r.rc S cs x):cs[off]? =some (get x):=by
 have A:(cs.drop off).take 1=[get x]:=(h S cs x k).1
 rw [List.take_one,List.head?_drop]at A
 cases hc:cs[off]? with
 |none=>rw [hc]at A;cases A
 |some v=>rw [hc]at A;simpa using A

def Gt(t:Ty):Ty where
 p:=fun S v=>v.oneCell' =true/\t.p S v
 mono:=fun h ⟨e,k⟩=>⟨e,t.mono h k⟩
def aaO{t:Ty}: ∀S v,(Gt t).p S v->t.p S v:=fun _ _ h=>h.2
def YN{t:Ty}: ∀S v,(Gt t).p S v->v.oneCell' =true:=fun _ _ h=>h.1
def Wl(n:FuncId)(pre post:List Ty)(b:Nat):Ty where
 p:=fun S v=> ∃us vs,v= .func (.func n) #[] (us++al b 0::vs).toArray/\Ay S pre us/\Ay S post vs
 mono:=fun h ⟨us,vs,e,k1,k2⟩=>⟨us,vs,e,k1.mono h,k2.mono h⟩
variable{post pre:List Ty}
def YO: ∀S v,(Wl n pre post b).p S v->v.oneCell' =true:=fun _ _ ⟨_,_,e,_⟩=>by rw [e];rfl
def Wk(n:FuncId)(pre post:List Ty)(b:Nat):Ty:=tPV (al b 0) (bt (rT (Wl n pre post b)) ())
variable{Ob:X->OI->List OE}{args:h1->List Ty}{res:ρ->Ty}
section
def So{caps:List Operand}{cts:List Ty}(hc:aj E.P fid=true)(hp:j3 E.N G caps cts)(hs: ∀x y R,f x y=some R-> ∀i,eJ E.P fid (args y++cts) (Ob x i) (fun _:OI=>res R.1) (fun j=>Ob R.2 j)):
  ce E O G ⟨dst,.makeFunc (.func fid) #[] caps.toArray,ty,pos,after,g⟩ (Gt (lX E.P args Ob res f)):= .of_pure fun a w S _ _ hf=>by
 have A:=hp.tys hf
 refine⟨.func (.func fid) #[] (caps.map a.eval).toArray,by simp [execOp,Instr.makeFunc],rfl,fun x y R hR=>⟨fid,#[],(caps.map a.eval).toArray,rfl,hc,fun i w' S' vs hle hsat hv ho=>?_⟩⟩
 have:=hs x y R hR i w' S' (vs++caps.map a.eval) hsat (hv.append (A.mono hle)) ho
 rw [show(#[]++vs.toArray++(caps.map a.eval).toArray:Array Value)=(vs++caps.map a.eval).toArray from by simp]
 exact this
def Sp{xs ys:List Operand}(A:j3 E.N G xs pre)(D:aL E.N G x (Z (al b 0)))(V:j3 E.N G ys post):
  ce E O G ⟨dst,.makeFunc (.func n) #[] (xs++x::ys).toArray,ty,pos,after,g⟩ (Wl n pre post b):= .of_pure fun a w S _ _ hf=>by
 have h3:a.eval x=al b 0:=D S a hf
 exact⟨.func (.func n) #[] ((xs++x::ys).map a.eval).toArray,by simp [execOp,Instr.makeFunc],xs.map a.eval,ys.map a.eval,by simp [h3],A.tys hf,V.tys hf⟩
def Jj{p:Operand}(ti:TI E.P U 1 bytes false z)(hp:aL E.N G p (Wk n pre post b)):ce E O G ⟨dst,.load U p,ty,pos,after,g⟩ (Wl n pre post b):=uG ti (aaN hp)
def Jh{t:Ty}{p:Operand}(ti:TI E.P U 1 bytes false z)(hp:aL E.N G p (bt (rT (Gt t)) ())):ce E O G ⟨dst,.load U p,ty,pos,after,g⟩ t:=(uG ti hp).imp aaO
def HQ{pst:List Ty}{fo cp:Operand}{xs:List Operand}(O1 Or:List OE){t:OI->Ty}{O2 post:OI->List OE}(hO:O=O1++Or)(hf:aL E.N G fo (Wl n pre pst b))(hcp:aL E.N G cp (Wk n pre pst b))(hc:aj E.P n=true)(hs:eJ E.P n (ts++(pre++Wk n pre pst b::pst)) O1 t O2)(D:j3 E.N G xs ts)(hpost: ∀i,O2 i++Or=post i):
  EffOK E O G ⟨some aN,.call ⟨.value fo,xs.toArray,ats⟩,ty,pos,after,g⟩ post t:=fun a w S hsat ho hF H=>by
 subst hO
 obtain rfl:(fun i=>O2 i++Or)=post:=funext hpost
 obtain⟨us,vs,e,A,V⟩:=hf S a hF
 have h3:(Wk n pre pst b).p S (al b 0):=by
  have:=hcp S a hF
  exact⟨rfl,this.2⟩
 have hr:(execOp a.eval ⟨some aN,.call ⟨.value fo,xs.toArray,ats⟩,ty,pos,after,g⟩).run E.P w= .ok (.enter n (xs.map a.eval++(us++al b 0::vs)).toArray) w:=by
  simp [execOp,resolve,e,Deferred.ofValue,invoke,jN hc]
 refine⟨fun c h=>(by cases h),?_⟩
 rw [hr]
 have h4:Ay S (ts++(pre++Wk n pre pst b::pst)) (xs.map a.eval++(us++al b 0::vs)):=(D.tys hF).append (A.append ⟨h3,V⟩)
 exact(hs w S _ hsat h4 (p9 ho).1.weak).mono fun en w' ⟨i,v,S',he,hv,A,V,h3,h4⟩=>⟨_,he,v,S',i,rfl,A.more fun b ⟨f,hf,H⟩=>⟨f,F4 _ hf,H⟩,V,du.turn ho H A h3 h4,hv⟩
end
def VZ(P:Program){h1 X ρ:Type}(args:h1->List Ty)(Ob:X->OI->List OE)(res:ρ->Ty):Rp (X->h1->Option (ρ×X)) where
 sz:=1
 agg:=false
 rc:=fun S cs f=> ∃v,cs=[v]/\v.oneCell' =true/\(lX P args Ob res f).p S v
 mono:=fun h ⟨v,e,k,k2⟩=>⟨v,e,k,(lX _ _ _ _ _).mono h k2⟩
 len:=fun⟨v,h,_⟩=>by rw [h];rfl
 one:=fun⟨v,h,k,_⟩ c hc=>by rw [h]at hc;simp at hc;subst hc;exact k
 sc:=fun _=>rfl
def YC(h:aL N G x (K (VZ P args Ob res) f)):aL N G x (lX P args Ob res f):=fun S a hf=>by
 obtain⟨cs,e,v,rfl,_,k⟩:=h S a hf
 rw [e];exact k
section
def ua{p:Operand}(hc:aj E.P fid=true)(hp:aL E.N G p (Z (al b 0)))(hs: ∀x y R,f x y=some R-> ∀i,eJ E.P fid (Z (al b 0)::args y) (Ob x i) (fun _:OI=>res R.1) (fun j=>Ob R.2 j)):
  ce E O G ⟨dst,.makeFunc (.func fid) #[p] #[],ty,pos,after,g⟩ (K (VZ E.P args Ob res) f):= .of_pure fun a w S _ _ hf=>by
 have A:a.eval p=al b 0:=hp S a hf
 refine⟨.func (.func fid) #[al b 0] #[],by simp [execOp,Instr.makeFunc,A],[_],rfl,_,rfl,rfl,fun x y R hR=>⟨fid,#[al b 0],#[],rfl,hc,fun i w' S' vs _ hsat hv ho=>?_⟩⟩
 have:=hs x y R hR i w' S' (al b 0::vs) hsat ⟨rfl,hv⟩ ho
 rw [show(#[al b 0]++vs.toArray++ #[]:Array Value)=(al b 0::vs).toArray from by simp]
 exact this
end
variable{x0 x1 x10 x11 x12 x13 x14 x15 x2 x3 x4 x5 x6 x7 x8 x9:OE}
section
variable{c:Code}{e:Exit}{base:Nat}{B:Nat->Prop}{o:Oper}{post:OI->List OE}{t:OI->Ty}
def Jz:(x0::x1::x2::x3::x4::x5::x6::x7::x8::x9::x10::x11::x12::x13::x14::x15::O).Perm (x15::x0::x1::x2::x3::x4::x5::x6::x7::x8::x9::x10::x11::x12::x13::x14::O):=(List.perm_middle (l₁:=[x0,x1,x2,x3,x4,x5,x6,x7,x8,x9,x10,x11,x12,x13,x14]) (l₂:=O))
def Ic(h:RG E ops af rest (x15::x0::x1::x2::x3::x4::x5::x6::x7::x8::x9::x10::x11::x12::x13::x14::O) G):RG E ops af rest (x0::x1::x2::x3::x4::x5::x6::x7::x8::x9::x10::x11::x12::x13::x14::x15::O) G:=fun a w S st=>h a w S (st.own_map fun ho=>ho.perm Jz)
def pU(h:AT E af e (x15::x0::x1::x2::x3::x4::x5::x6::x7::x8::x9::x10::x11::x12::x13::x14::O) G):AT E af e (x0::x1::x2::x3::x4::x5::x6::x7::x8::x9::x10::x11::x12::x13::x14::x15::O) G:=fun a w S st=>h a w S (st.own_map fun ho=>ho.perm Jz)
def VF:(x0::x1::x2::x3::x4::x5::x6::x7::x8::x9::x10::x11::O).Perm (x1::x2::x3::x4::x5::x6::x7::x8::x9::x10::x11::x0::O):=(List.perm_middle (l₁:=[x1,x2,x3,x4,x5,x6,x7,x8,x9,x10,x11]) (l₂:=O)).symm
def oy(h:EffOK E (x1::x2::x3::x4::x5::x6::x7::x8::x9::x10::x11::x0::O) G o post t):EffOK E (x0::x1::x2::x3::x4::x5::x6::x7::x8::x9::x10::x11::O) G o post t:=EffOK.perm h (fun ho=>ho.perm VF) (fun f hf=>VF.symm.subset hf)
def VE:(x0::x1::x2::x3::x4::x5::x6::x7::x8::x9::x10::x11::x12::O).Perm (x1::x2::x3::x4::x5::x6::x7::x8::x9::x10::x11::x12::x0::O):=(List.perm_middle (l₁:=[x1,x2,x3,x4,x5,x6,x7,x8,x9,x10,x11,x12]) (l₂:=O)).symm
def BY(h:EffOK E (x1::x2::x3::x4::x5::x6::x7::x8::x9::x10::x11::x12::x0::O) G o post t):EffOK E (x0::x1::x2::x3::x4::x5::x6::x7::x8::x9::x10::x11::x12::O) G o post t:=EffOK.perm h (fun ho=>ho.perm VE) (fun f hf=>VE.symm.subset hf)
end
open Go.Sort Go.Shelf

def CX(h:k<w.heap.size):(grow w os).heap[k]? =w.heap[k]? :=by
 unfold grow;exact Array.getElem?_append_left h
variable{enc:α->Value}
def Mv [Inhabited α]{aN:Array α}(h:k≠b):(putRow enc w b off aN).heap[k]? =w.heap[k]? :=by
 unfold putRow mapBlock
 rw [Array.getElem?_modify,bm (Ne.symm h)]
def CW [Inhabited α]{m:Nat}{aN:Array α}(hk:k<w.heap.size)(h:k≠b):(sortWorld enc w b off m aN os).heap[k]? =w.heap[k]? :=by
 unfold sortWorld
 rw [CX (by rw [size_putRow];exact hk),Mv h];rfl
def KJ [Inhabited α]{m:Nat}{aN:Array α}{c:Array Value}{fr:Nat×Nat}(h:w.heap[b]? =some (.cells c T fr)):
  (sortWorld enc w b off m aN os).heap[b]? =some (.cells (putCells enc off aN c) T fr):=by
 have hlt:=(Bb.1 h).1
 unfold sortWorld
 rw [CX (by rw [size_putRow];exact hlt)]
 unfold putRow mapBlock
 rw [Array.getElem?_modify,bv rfl]
 show Option.map _ (w.heap[b]?)=_
 rw [h];rfl
def IC [Inhabited α]{aN:Array α}{c:Array Value}(h:aN.size<=c.size):(putCells enc 0 aN c).toList.take aN.size=aN.toList.map enc:=by
 apply Ga
 intro k
 by_cases hk:k<aN.size
 ·rw [DA hk]
  have hc:k<c.size:=by omega
  simp [putCells,hc,hk]
 ·rw [Ip (by simp;omega),Ip (by simp;omega)]
section
def Ni{n m:Nat}(hl:m=n)(s:Nat)(hs:look G s=some (Z (Y l cap n)))(k:RG E ops af rest O ((s,Z (Y l cap m))::G)):RG E ops af rest O G:=by
 subst hl
 exact fun a w S st=>k a w S ⟨st.ext,st.sat,st.own,⟨st.facts.size,st.facts.defers,fun j t h=>by
  unfold look at h
  by_cases H:Nat.beq s j=true
  ·rw [H]at h
   have:=pF H
   subst this
   have e:Z (Y l cap m)=t:=by simpa using h
   rw [<-e];exact st.facts.at_ s _ hs
  ·rw [Dy]at H
   rw [H]at h
   exact st.facts.at_ j t h⟩⟩
end

def ltF{α:Type}(cmp:α×α->Option Int)(x y:α):Bool:=
 match cmp (x,y)with
 |some c=>decide (c<0)
 |none=>false
def aaY{α:Type}(lt:α->α->Bool)(x:α):List α->List α
 |[]=>[x]
 |y::ys=>if lt y x then y::aaY lt x ys else x::y::ys
def X6{α:Type}(lt:α->α->Bool):List α->List α
 |[]=>[]
 |x::xs=>aaY lt x (X6 lt xs)
structure Good{α:Type}(cmp:α×α->Option Int)(xs:List α):Prop where
 len:xs.length<=1099511627776
 tot: ∀x∈xs,∀y∈xs,(cmp (x,y)).isSome=true
 irr: ∀x∈xs,ltF cmp x x=false
 tr: ∀x∈xs,∀y∈xs,∀z∈xs,ltF cmp x y=true->ltF cmp y z=true->ltF cmp x z=true
 anti: ∀x∈xs,∀y∈xs,ltF cmp x y=false->ltF cmp y x=false->x=y
def sortI(xs:List Int):List Int:=xs.mergeSort fun x y=>decide (x<=y)
def DH(xs:List Int):(sortI xs).length=xs.length:=by unfold sortI;simp
def Jt(x:Int):List Int->List Int
 |[]=>[x]
 |y::l=>if x<=y then x::y::l else y::Jt x l
def SD:List Int->List Int
 |[]=>[]
 |x::l=>Jt x (SD l)
def By(x:Int): ∀l:List Int,(Jt x l).Perm (x::l)
 |[]=> .refl _
 |y::l=>by
  unfold Jt
  split
  ·exact .refl _
  ·exact((By x l).cons y).trans (.swap x y l)
def Js: ∀l:List Int,(SD l).Perm l
 |[]=> .refl _
 |x::l=>(By x (SD l)).trans ((Js l).cons x)
def Mq(x:Int): ∀l:List Int,l.Pairwise (· <= ·)->(Jt x l).Pairwise (· <= ·)
 |[],_=>List.pairwise_singleton _ _
 |y::l,h=>by
  have hy: ∀z∈l,y<=z:=fun z hz=>List.rel_of_pairwise_cons h hz
  unfold Jt
  split
  ·rename_i D
   refine List.Pairwise.cons (fun z hz=>?_) h
   rcases f7.1 hz with rfl|hz
   ·exact D
   ·exact Int.le_trans D (hy z hz)
  ·rename_i D
   refine List.Pairwise.cons (fun z hz=>?_) (Mq x l (List.Pairwise.of_cons h))
   rcases f7.1 ((By x l).mem_iff.1 hz)with rfl|hz
   ·omega
   ·exact hy z hz
def QX: ∀l:List Int,(SD l).Pairwise (· <= ·)
 |[]=> .nil
 |x::l=>Mq x _ (QX l)
def WJ(l:List Int):SD l=sortI l:=by
 refine List.Perm.eq_of_pairwise (le:=(· <= ·)) (fun a b _ _ A V=>Int.le_antisymm A V) (QX l) ?_ ((Js l).trans (List.mergeSort_perm l _).symm)
 have:=List.pairwise_mergeSort (le:=fun x y:Int=>decide (x<=y)) (fun a b c A V=>by simp at*;omega) (fun a b=>by simp;omega) l
 exact this.imp fun h=>by simpa using h
def Gu(xs:List Int):Option (List Int):=if xs.length<=68719476736 then some (SD xs)else none
def I3(xs:List Int):Gu xs=if xs.length<=68719476736 then some (sortI xs)else none:=by
 unfold Gu
 rw [WJ]
def LE{xs ys:List Int}(h:Gu xs=some ys):xs.length<=68719476736/\ys=sortI xs:=by
 rw [I3]at h
 split at h
 ·exact⟨by assumption,by simpa using h.symm⟩
 ·cases h


def Qy{k:IntKind}{S:SH}: ∀{xs:List Int} {cs:List Value},qc (rI k) S cs xs->cs=xs.map (Value.int k)
 |[],cs,h=>by rw [show cs=[]from h];rfl
 |x::xs,cs,⟨a,b,e,A,V⟩=>by
  rw [e,show a=[.int k x]from A,Qy V]
  rfl
def QW{k:IntKind}{S:SH}: ∀xs:List Int,qc (rI k) S (xs.map (Value.int k)) xs
 |[]=>rfl
 |x::xs=>⟨[.int k x],_,rfl,rfl,QW xs⟩
def RY{ρ:Ren}(L:Lays.n189 P ρ){xs:List Int}(hlen0:xs.length<=68719476736)(hs:lV w S)(h:(dv (rI .i64) T l cap xs).p w S):
  Calls P (ρ.f 189) #[Y l cap xs.length] w fun e w' =>e= .returned (.tuple #[])/\kx (fun k=>l=some k) w S w' S/\lV w' S/\(dv (rI .i64) T l cap (sortI xs)).p w' S:=by
 cases l with
 |none=>
  have D:xs=[]:=wA (by obtain⟨_,h4,_⟩:=h;exact h4.1)
  subst D
  exact(Any.slices_Sort_int_none (P:=P) (ρ:=ρ) L none 0 w).mono fun _ _ ⟨A,V⟩=>by subst V;exact⟨A,kx.refl _ _ _,hs,by simpa [sortI] using h⟩
 |some b=>
  obtain⟨cells0,⟨cur,H,hle,hmax,hcs,hct⟩,hrc,hno0⟩:=h
  have hno:S b=none:=hno0 b rfl
  subst hct
  have A:(rI .i64).sz=1:=rfl
  rw [A,F5]at hcs hrc
  have hcells:=Qy hrc
  have hH:Holds (Value.int .i64) w b 0 xs.toArray:=by
   intro j hj
   have hj' :j<xs.length:=by simpa using hj
   have hc:cur[j]? =some (Value.int .i64 xs.toArray[j]!):=by
    have:(cur.toList.take xs.length)[j]? =some (Value.int .i64 xs.toArray[j]!):=by
     rw [hcells,Dz,getElem!_pos xs.toArray j hj]
     simp [hj']
    rw [DA (by omega)]at this
    simpa using this
   refine⟨by simp [World.cell?,H,hc],?_⟩
   simp [World.frozen?,H]
  have hblk:=(Bb.1 H).1
  have hcall:=calls_of_every_depth fun hx=>AnyS.slices_Sort_int_alone (P:=P) (ρ:=ρ) L hx b 0 cap xs w hH hblk (by omega)
  refine hcall.mono fun e w' ⟨he,n,os,hw⟩=>?_
  have hlen:=DH xs
  have hw2:w' =sortWorld (Value.int .i64) w b 0 n (sortI xs).toArray os:=hw
  subst hw2
  refine⟨he,⟨rfl,rfl,rfl,Nat.le_add_right _ _,?_,fun k hk hkb=>CW hk (fun e=>hkb (by rw [e])),SH.le_refl _,fun _ _ _=>rfl⟩,hs.same fun k o hk=>?_,⟨_,⟨_,KJ H,by omega,hmax,?_,rfl⟩,?_,hno0⟩⟩
  ·unfold sortWorld;rw [size_grow,size_putRow];exact Nat.le_add_right _ _
  ·have hkb:k≠b:=fun e=>by subst e;rw [hno]at hk;cases hk
   exact CW (hs.lt hk) hkb
  ·simp [putCells,A,hcs]
  ·have e1:(sortI xs).length*(rI .i64).sz=(sortI xs).toArray.size:=by rw [A];simp
   rw [e1,IC (by simp;omega)]
   exact QW (sortI xs)
section
def VN{ρ:Ren}(L:Lays.n189 E.P ρ){f:FuncId}(hf:ρ.f 189=f)(hc:aj E.P f=true){n:Nat}{xs ys:List Int}(hy:Gu xs=some ys)(D:aL E.N G x (Z (Y l cap n)))(hn:n=xs.length)(hd:Nat.blt aN E.N.n=true)(k:ys.length=n->RG E ops af rest (dv (rI .i64) T l cap ys::O) ((aN,tw)::G)):RG E ops af (⟨some aN,.call ⟨.value (.func f),#[x],ats⟩,ty,pos,after,none⟩::rest) (dv (rI .i64) T l cap xs::O) G:= .of rfl fun a w S st=>by
 obtain⟨hl0,rfl⟩:=LE hy
 subst hf
 subst hn
 have A:a.eval x=Y l cap xs.length:=D S a st.facts
 have hr:(execOp a.eval ⟨some aN,.call ⟨.value (.func (ρ.f 189)),#[x],ats⟩,ty,pos,after,none⟩).run E.P w= .ok (.enter (ρ.f 189) #[Y l cap xs.length]) w:=by
  have e0:a.eval (.func (ρ.f 189))= .func (.func (ρ.f 189)) #[] #[]:=rfl
  simp [execOp,resolve,e0,A,Deferred.ofValue,invoke,jN hc]
 refine⟨fun c h=>(by cases h),?_⟩
 rw [hr]
 refine(RY L hl0 st.sat st.own.1.1).mono fun e w' ⟨he,hext,hsat,hp⟩=>⟨_,he,?_⟩
 have hfp: ∀g∈O,∀b,g.fp b-> ¬(l=some b):=fun g hg b H hl=>st.own.2.1 g hg b hl H
 refine k (DH xs) _ _ S ⟨st.ext.step hext (fun c hc=>st.own.1.2 c hc),hsat,⟨⟨hp,st.own.1.2⟩,st.own.2.1,st.own.2.2.ext hext hfp⟩,?_⟩;exact(st.facts.mono hext.keep).put hd trivial
end
open Go.Lib

variable{W:World}
def qQ(hle: ∀(b:Nat) (o:Obj),W.heap[b]? =some o-> ∃o',w.heap[b]? =some o' /\Io o o'){v:Value}(h:W.cell? ⟨b,i,none⟩=some v):w.cell? ⟨b,i,none⟩=some v:=by
 unfold World.cell? at h ⊢
 cases H:W.heap[b]? with
 |none=>simp [H]at h
 |some o=>
  obtain⟨o',A,V⟩:=hle b o H
  simp only [H]at h
  simp only [A]
  cases o with
  |cells c T fr=>
   obtain⟨l,rfl⟩:=V
   simp only [Option.isSome_none,lh,jB]at h ⊢
   rw [<-Qa]at h ⊢
   rw [Cf (o5.1 h).1]
   exact h
  |_=>simp at h
def Ns{g:Nat}{T:Array CaseRow}(hle: ∀(b:Nat) (o:Obj),W.heap[b]? =some o-> ∃o',w.heap[b]? =some o' /\Io o o')(h:CaseVar g T W):CaseVar g T w:=by
 obtain⟨R,oR,cap,A,V⟩:=h
 exact⟨R,oR,cap,qQ hle A,fun i hi=>⟨qQ hle (V i hi).1,qQ hle (V i hi).2.1,qQ hle (V i hi).2.2.1,qQ hle (V i hi).2.2.2.1,qQ hle (V i hi).2.2.2.2⟩⟩
def Li{g3 g4:Nat}(hle: ∀(b:Nat) (o:Obj),W.heap[b]? =some o-> ∃o',w.heap[b]? =some o' /\Io o o')(h:Utf8Tabs g3 g4 W):Utf8Tabs g3 g4 w:=
 ⟨fun c hc=>qQ hle (h.1 c hc),fun i hi=>⟨qQ hle (h.2 i hi).1,qQ hle (h.2 i hi).2⟩⟩

def LZ{α β:Type}(r:Rp α)(q:Rp β)(hsz:q.sz=r.sz)(hsc:r.agg=false->r.sz=1):Rp (α ⊕ β) where
 sz:=r.sz
 agg:=r.agg
 rc:=fun S cs x=>match x with
  | .inl a=>r.rc S cs a
  | .inr b=>q.rc S cs b
 mono:=fun{S S' cs x} h k=>by cases x with
  |inl a=>exact r.mono h k
  |inr b=>exact q.mono h k
 len:=fun{S cs x} k=>by cases x with
  |inl a=>exact r.len k
  |inr b=>exact(q.len k).trans hsz
 one:=fun{S cs x} k=>by cases x with
  |inl a=>exact r.one k
  |inr b=>exact q.one k
 sc:=hsc
def UV(hsz:q.sz=r.sz)(hsc:r.agg=false->r.sz=1){x:α}:aaf (LZ r q hsz hsc) 0 r (.inl x) x:=fun S cs h=>O5 S cs h
def Ws(hsz:q.sz=r.sz)(hsc:r.agg=false->r.sz=1){y:α ⊕ β}{x:α}:pw (LZ r q hsz hsc) (LZ r q hsz hsc) 0 r y x (.inl x):=fun S cs ds h k=>by
 have e1:=(LZ r q hsz hsc).len h
 have e2:=r.len k
 have e3:cs.drop (0+r.sz)=[]:=o6 (by rw [e1];show r.sz<=0+r.sz;omega)
 show r.rc S (cs.take 0++ds++cs.drop (0+r.sz)) x
 rw [e3];simpa using k
def Wr(hsz:q.sz=r.sz)(hsc:r.agg=false->r.sz=1){y:α ⊕ β}{x:β}:pw (LZ r q hsz hsc) (LZ r q hsz hsc) 0 q y x (.inr x):=fun S cs ds h k=>by
 have e1:=(LZ r q hsz hsc).len h
 have e2:=q.len k
 have e3:cs.drop (0+q.sz)=[]:=o6 (by rw [e1,hsz];show r.sz<=0+r.sz;omega)
 show q.rc S (cs.take 0++ds++cs.drop (0+q.sz)) x
 rw [e3];simpa using k
def Ul: ∀{cs:List Value},qc r S cs xs->(∀x∈xs,∀cs,r.rc S cs x-> ∃y,q.rc S cs y)-> ∃ys:List β,ys.length=xs.length/\qc q S cs ys:=by
 induction xs with
 |nil=>intro cs h _;exact⟨[],rfl,h⟩
 |cons x xs ih=>
  intro cs h k
  obtain⟨a,b,e,A,V⟩:=h
  obtain⟨y,hy⟩:=k x (lg ..) a A
  obtain⟨ys,h3,h4⟩:=ih V fun z hz=>k z (li _ hz)
  exact⟨y::ys,by simp [h3],a,b,e,hy,h4⟩
def YG(hsz:q.sz=r.sz)(h:qc r S cs xs)(k: ∀x∈xs,∀cs,r.rc S cs x-> ∃y,q.rc S cs y)(hi:i<xs.length){y:β}(hy: ∀cs,r.rc S cs xs[i]->q.rc S cs y): ∃ys:List β,ys.length=xs.length/\qc q S cs (ys.set i y):=by
 obtain⟨ys,A,V⟩:=Ul h k
 refine⟨ys,A,?_⟩
 have g1:=wQ h (qf hi)
 have g2:=wP (hy _ g1) V (i:=i) (by omega)
 rw [<-hsz]at g2
 have e:cs.take (i*q.sz)++(cs.drop (i*q.sz)).take q.sz++cs.drop (i*q.sz+q.sz)=cs:=by
  rw [gI,<-uk,ra,ra]
 rw [e]at g2
 exact g2
def eJ.imp{f:FuncId}{O1:List OE}{ι κ:Type _}{t:ι->Ty}{u:κ->Ty}{O2:ι->List OE}{O3:κ->List OE}(h:eJ P f ts O1 t O2)(k: ∀i w S,du 0 uc w S (O2 i)-> ∃j,du 0 uc w S (O3 j)/\(∀v,(t i).p S v->(u j).p S v)/\ ∀b,(∃f∈O3 j,f.fp b)-> ∃f∈O2 i,f.fp b):eJ P f ts O1 u O3:=fun w S vs hs hv ho=>
 (h w S vs hs hv ho).mono fun _ w' ⟨i,v,S',he,A,V,h3,h4,h5⟩=>let⟨j,g1,g2,g3⟩:=k i w' S' h4;⟨j,v,S',he,g2 v A,V,h3,g1,fun b H=>h5 b (g3 b H)⟩
section
variable{c:Code}{e:Exit}
section
def Sq{v:β}{foff:Nat}{i:Int}{sz:Nat}{p:Operand}(ti:TI E.P T sz bytes agg z)(hsz:q.sz=sz)(hag:q.agg=agg)(hget:aaf r foff q y v)(hm:ku mm r U l cap xs∈O)(hy:ep xs i=some y)(hp:aL E.N G p (Z (bh l (i.toNat*r.sz+foff)))):ce E O G ⟨dst,.load T p,ty,pos,after,g⟩ (K q v):=
 .of_pure fun a w S _ ho hf=>by
  have A:a.eval p=bh l (i.toNat*r.sz+foff):=hp S a hf
  obtain⟨h0,hy'⟩:=eM hy
  obtain⟨b,cur,rfl,H,_,_,h6⟩:=nE (ho.mem _ hm).1 hy'
  obtain⟨hoff',h7⟩:=hget S _ h6
  rw [r.len h6]at hoff'
  rw [yq,B0,uk,A7 (by omega)]at h7
  refine⟨_,?_,_,rfl,h7⟩
  simp [execOp,A,bh,al,Instr.loadAt,Instr.sureAddr,iu ti H hsz hag h7]
end
def Ib{y1:α}{foff:Nat}{v:β}{i:Int}{sz:Nat}{p:Operand}(ti:TI E.P T sz bytes agg z)(hsz:q.sz=sz)(hset:pw r r foff q y v y1)(hoff:Nat.ble (foff+q.sz) r.sz=true)(hy:ep xs i=some y)(hz:xs.set i.toNat y1=zs)(hp:aL E.N G p (Z (bh l (i.toNat*r.sz+foff))))(D:aL E.N G x (K q v))(k:RG E ops af rest (dv r U l cap zs::O) G):
  RG E ops af (⟨none,.store T p x,ty,pos,after,none⟩::rest) (dv r U l cap xs::O) G:= .of rfl fun a w S st=>by
 subst hz
 have A:a.eval p=bh l (i.toNat*r.sz+foff):=hp S a st.facts
 obtain⟨ds,V,h3⟩:=D S a st.facts
 obtain⟨h0,hy'⟩:=eM hy
 have hlt:i.toNat<xs.length:=(o5.1 hy').1
 obtain⟨cells,hraw,hrc,hno⟩:=st.own.1.1
 obtain⟨b,cur,rfl,H,hle,hcs,h6⟩:=nE st.own.1.1 hy'
 obtain⟨cur',hb',hle',hmax,hcs',hct⟩:=hraw
 have hcc:cur' =cur:=by rw [H]at hb';injection hb' with e;injection e with e1;exact e1.symm
 subst hcc
 have hno' :S b=none:=hno b rfl
 have hoff' :=rm hoff
 have hl3:=q.len h3
 have hmul:i.toNat*r.sz+r.sz<=xs.length*r.sz:=by rw [<-EG];exact ya _ hlt
 have hmul2:xs.length*r.sz<=cur'.size:=by rw [hcs];exact ya _ hle
 obtain⟨w',hr,e1,e2,e3,e4,e5,e6⟩:=iD ti hsz h3 H (off:=i.toNat*r.sz+foff) (by omega)
 have hrun:(execOp a.eval ⟨none,.store T p x,ty,pos,after,none⟩).run E.P w= .ok .skip w' :=by
  simp [execOp,A,V,Instr.storeAt,bh,al,Instr.sureAddr,hr]
 refine⟨fun c h=>(by cases h),?_⟩
 rw [hrun]
 have hnew:=hset S _ _ h6 h3
 have hrc' :=wP hnew hrc hlt
 have hcl:=lx hrc
 have hcells:(cur'.toList.take (i.toNat*r.sz+foff)++ds++cur'.toList.drop (i.toNat*r.sz+foff+q.sz)).take (xs.length*r.sz)=
   cells.take (i.toNat*r.sz)++(((cur'.toList.drop (i.toNat*r.sz)).take r.sz).take foff++ds++((cur'.toList.drop (i.toNat*r.sz)).take r.sz).drop (foff+q.sz))++cells.drop (i.toNat*r.sz+r.sz):=by
  subst hct
  apply Ga
  intro j
  simp only [List.getElem?_take,List.getElem?_append,wz,ym,Fn,gA,Fo]
  rcases lZ j (xs.length*r.sz)with hj|hj
  ·simp only [hj,i8]
   rcases lZ j (i.toNat*r.sz)with hj1|hj1
   ·rw [bv (by omega),bv (by omega),bv (by omega),bv (by omega),bv (by omega),bv (by omega)]
   ·rcases lZ j (i.toNat*r.sz+foff)with hj2|hj2
    ·rw [bv (by omega),bv (by omega),bv (by omega),bv (by omega),bm (by omega),bv (by omega),bv (by omega),bv (by omega),bv (by omega)]
     congr 1;omega
    ·rcases lZ j (i.toNat*r.sz+foff+q.sz)with hj3|hj3
     ·rw [bv (by omega),bm (by omega),bv (by omega),bm (by omega),bv (by omega),bm (by omega)]
      congr 1;omega
     ·rw [bm (by omega)]
      rcases lZ j (i.toNat*r.sz+r.sz)with hj4|hj4
      ·rw [bv (by omega),bm (by omega),bm (by omega),bv (by omega)]
       congr 1;omega
      ·rw [bm (by omega),bv (by omega)]
       congr 1;omega
  ·rw [bm (by omega),bm (by omega),bm (by omega)]
 obtain⟨g1,g2,g3⟩:=ll (O:=O) st.sat (dv r U (some b) cap xs) (dv r U (some b) cap (xs.set i.toNat y1)) st.own (fun k=>⟨fun h=>(nR h).symm,fun h=>by rw [h];rfl⟩) (fun k=>⟨fun h=>(nR h).symm,fun h=>by rw [h];rfl⟩) ⟨e1,e2,e3,e4.1,e4.2⟩ e6
  ⟨_,⟨_,e5,by rw [vW];exact hle,hmax,by simp only [EQ,gA,ym,Fn,Fo];omega,by rw [vW];exact hcells⟩,hrc',fun k hk=>by rw [<-nR hk];exact hno'⟩ hno'
 exact k _ _ S ⟨st.ext.step g1 (fun c hc=>st.own.1.2 c (by rw [hc];rfl)),g2,g3,st.facts⟩
def VR{f:α->β}(hsz:q.sz=r.sz)(hw: ∀S cs x,r.rc S cs x->q.rc S cs (f x))(k:LG E af c (ku mm q T l cap (xs.map f)::O) G):LG E af c (ku mm r T l cap xs::O) G:=fun a w S st=>by
 obtain⟨cells,A,V,h3⟩:=st.own.1.1
 have g: ∀(xs:List α) (cs:List Value),qc r S cs xs->qc q S cs (xs.map f):=fun xs=>by
  induction xs with
  |nil=>intro cs h;exact h
  |cons x xs ih=>intro cs h;obtain⟨a,b,e,A,V⟩:=h;exact⟨a,b,e,hw S a x A,ih b V⟩
 exact k a w S (st.own_map fun ho=>⟨⟨⟨cells,by rw [hsz,Cb];exact A,g _ _ V,h3⟩,ho.1.2⟩,ho.2.1,ho.2.2⟩)
end
end Go.Proofs.YtigldkegamffhaaGreatDoor

