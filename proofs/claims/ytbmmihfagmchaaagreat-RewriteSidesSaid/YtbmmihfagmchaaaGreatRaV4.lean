/- db of this claim: W64, W63, W67, W68, W69, W70, W58, W60, W44, W55, W29. -/
import Derived.Test.YtbmmihfagmchaaaGreatRaV3
import Derived.Test.YtbmmihfagmchaaaGreatRaV1
import Derived.Test.YtbmmihfagmchaaaGreatRaV2
import Derived.Shelf.GgSortFunc.Insertion
import Derived.Shelf.Slices.In.SortNone
set_option linter.all false
namespace Go.Proofs.YtbmmihfagmchaaaGreat
open Go

variable{α:Type}{d:Array α}{n:FuncId}{r:Rp α}{t u:Ty}
def o5{n d:Nat}{r s:Option Ty}(h:(oO n d r,s)=(some t,some u)):Nat.blt d n=true/\r=some t/\s=some u:=
 ⟨(cv (tH h).1).1,(cv (tH h).1).2,(tH h).2⟩
def E7(G:gJ):Operand->Option Ty
 | .tmp k=>bu G k
 | .const (.int k n)=>some (X (rI k) n)
 | .const (.bool b)=>some (X rB b)
 |_=>none
variable{G:gJ}{N:Fr}{x:Nat}
def zg: ∀{x:Operand},E7 G x=some t->aD N G x t
 | .tmp _,h=>D h
 | .const (.int _ _),h=>by cases h;exact hI
 | .const (.bool _),h=>by cases h;exact hB
variable{ts:List Ty}{xs:List α}
def bQ{N:Fr}{G:gJ}: ∀{xs:List Operand} {ts:List Ty},xs.map (E7 G)=ts.map some->ew N G xs ts
 |[],[],_=>trivial
 |_::_,_::_,h=>⟨zg (xC h).1,bQ (xC h).2⟩

variable{E:En}{O:List OE}{Q:Exit->Act->World->Prop}{aT U:TypeId}{a:Nat}{after after2:Array Edge}{agg:Bool}{ats:Array TypeId}{b bytes c cap d2:Nat}{dst:Option Tmp}{e:TypeId}{β:Type}{f:α->Option β}{g:Option (Nat×Bool)}{get:α->β}{i id' :Nat}{j:IntKind}{k:Nat}{l:Option Nat}{m off:Nat}{ops:Array Oper}{p:Nat}{pos pos2:String}{q:Rp β}{st:TypeId}{tl:List α}{ty ty2:TypeId}{w:World}{xt:TypeId}{y:Code}{yt:TypeId}{z:List Value}{γ:Type}
section
variable{l:List Oper}{d:Nat}{op:Op}
def K(h:bJ E O G ⟨some d,op,ty,pos,after,none⟩ t)(k:RG E ops Q l O ((d,t)::G))(hd:Nat.blt d E.N.n=true:=by exact rfl):
  RG E ops Q (⟨some d,op,ty,pos,after,none⟩::l) O G:=oq h hd k
def bn{x:α}{sz:Nat}(ti:TI E.P U sz bytes agg z)(hp:oO E.N.n d (bu G p)=some (bp r x))(k:RG E ops Q l O ((d,X r x)::G))(hs:(r.sz,r.agg)=(sz,agg):=by exact rfl):RG E ops Q (⟨some d,.load U (.tmp p),ty,pos,after,none⟩::l) O G:=zo (cv hp).1 (lc ti (cv hp).2 hs) k
def k6{x:α}{sz:Nat}(M:co E.P aT i=some (off,sz))(hq:jE r off q get)(hp:oO E.N.n d (bu G p)=some (bp r x))(k:RG E ops Q l O ((d,bp q (get x))::G))(h0:(!(Nat.beq sz 0)&&Nat.ble (off+q.sz) r.sz)=true:=by exact rfl):
  RG E ops Q (⟨some d,.fieldAddr aT (.tmp p) i,ty,pos,after,none⟩::l) O G:=zo (cv hp).1 (jK M hq (cv hp).2 h0) k
def bw{x:α}{sz s2:Nat}{p2:Nat}(M:co E.P aT i=some (off,sz))(hq:jE r off q get)(ti:TI E.P U s2 bytes agg z)(hp:oO E.N.n d (bu G p)=some (bp r x))(k:RG E ops Q l O ((d2,X q (get x))::(d,bp q (get x))::G))(h0:(!(Nat.beq sz 0)&&Nat.ble (off+q.sz) r.sz)=true:=by exact rfl)(hp2:oO E.N.n d2 (bu ((d,bp q (get x))::G) p2)=some (bp q (get x)):=by exact rfl)(hs:(q.sz,q.agg)=(s2,agg):=by exact rfl):
  RG E ops Q (⟨some d,.fieldAddr aT (.tmp p) i,ty,pos,after,none⟩::⟨some d2,.load U (.tmp p2),ty2,pos2,after2,none⟩::l) O G:=k6 M hq hp (bn ti hp2 k hs) h0
def bD{sz o:Nat}(n:Nat)(M:co E.P aT i=some (off,sz))(hp:oO E.N.n d (bu G p)=some (tV (aq b o)))(k:RG E ops Q l O ((d,tV (aq b n))::G))(h0:Nat.beq sz 0=false:=by exact rfl)(he:o+off=n:=by exact rfl):RG E ops Q (⟨some d,.fieldAddr aT (.tmp p) i,ty,pos,after,none⟩::l) O G:=zo (cv hp).1 (pr n M h0 (cv hp).2 he) k
def bM(I:oO E.N.n d (bu G x)=some (tT ts))(hi:ts[i]? =some t)(k:RG E ops Q l O ((d,t)::G)):RG E ops Q (⟨some d,.extract (.tmp x) i,ty,pos,after,none⟩::l) O G:=zo (cv I).1 (vc hi (cv I).2) k
def cx{n:Int}(k:RG E ops Q l O ((d,X (rI j) n)::G))(hd:Nat.blt d E.N.n=true:=by exact rfl):RG E ops Q (⟨some d,.assign (.const (.int j n)),ty,pos,after,none⟩::l) O G:=zo hd If k
def cu{b:Bool}(k:RG E ops Q l O ((d,X rB b)::G))(hd:Nat.blt d E.N.n=true:=by exact rfl):RG E ops Q (⟨some d,.assign (.const (.bool b)),ty,pos,after,none⟩::l) O G:=zo hd Ig k
def cM(hu:E.P.underlying st=some (.slice e))(I:oO E.N.n d (bu G x)=some (X (eY r) xs))(k:RG E ops Q l O ((d,X (rI .i64) (xs.length:Int))::G)):
  RG E ops Q (⟨some d,.call ⟨.builtin .len,#[.tmp x],#[st]⟩,ty,pos,after,none⟩::l) O G:=zo (cv I).1 (GG hu (cv I).2) k
def cA{v:α}(I:oO E.N.n d (bu G x)=some (X r v))(k:RG E ops Q l O ((d,bp r v)::G)):RG E ops Q (⟨some d,.box aT (.tmp x),ty,pos,after,none⟩::l) O G:=zo (cv I).1 (zbx (cv I).2) k
def dq{b q:Bool}(h:(oO E.N.n d (bu G c),bu G x)=(some (X rB b),some (iI b (X rB q))))(k:RG E ops Q l O ((d,X rB (b&&q))::G)):
  RG E ops Q (⟨some d,.pick (.tmp c) (.tmp x) (.const (.bool false)),ty,pos,after,none⟩::l) O G:=zo (o5 h).1 (Ft (o5 h).2.1 (o5 h).2.2) k
def fg{b q:Bool}(h:(oO E.N.n d (bu G c),bu G x)=(some (X rB b),some (iI (!b) (X rB q))))(k:RG E ops Q l O ((d,X rB (b||q))::G)):
  RG E ops Q (⟨some d,.pick (.tmp c) (.const (.bool true)) (.tmp x),ty,pos,after,none⟩::l) O G:=zo (o5 h).1 (Ip (o5 h).2.1 (o5 h).2.2) k
section
variable{y:Nat}{m n:Int}
def tU(h:(oO E.N.n d (bu G x),bu G y)=(some (X (rI j) m),some (X (rI j) n)))(k:RG E ops Q l O ((d,X rB (decide (m<n)))::G)):
  RG E ops Q (⟨some d,.binOp .lss xt (.tmp x) (.tmp y) yt,ty,pos,after,none⟩::l) O G:=zo (o5 h).1 (zlt (o5 h).2.1 (o5 h).2.2) k
def cb(I:oO E.N.n d (bu G x)=some (X (rI j) m))(k:RG E ops Q l O ((d,X rB (m==n))::G)):RG E ops Q (⟨some d,.binOp .eql xt (.tmp x) (.const (.int j n)) yt,ty,pos,after,none⟩::l) O G:=zo (cv I).1 (GJ (cv I).2) k
def gk(I:oO E.N.n d (bu G x)=some (X (rI j) m))(k:RG E ops Q l O ((d,X rB (m !=n))::G)):RG E ops Q (⟨some d,.binOp .neq xt (.tmp x) (.const (.int j n)) yt,ty,pos,after,none⟩::l) O G:=zo (cv I).1 (zni (cv I).2) k
def i6{c:Bool}(I:bu G x=some (iI c (X (rI j) m)))(hc:c=true):bJ E O G ⟨dst,.binOp .eql xt (.tmp x) (.const (.int j n)) yt,ty,pos,after,g⟩ (X rB (m==n)):=fF (ca I hc) hI
def pu{c:Bool}(I:bu G x=some (iI c (X (rI j) m)))(hc:c=true):bJ E O G ⟨dst,.binOp .neq xt (.tmp x) (.const (.int j n)) yt,ty,pos,after,g⟩ (X rB (m !=n)):=ia (ca I hc) hI
def dt{id:Nat}{z w:Code}(I:xs.drop i=[])(h:(oO E.N.n d (bu G a),bu G b)=(some (X (rI .i64) (i:Int)),some (X (rI .i64) (xs.length:Int))))(k:AT E Q .normal O ((d,X rB (decide ((i:Int)<(xs.length:Int))))::G))(hc:bu ((d,X rB (decide ((i:Int)<(xs.length:Int))))::G) c=some (X rB (decide ((i:Int)<(xs.length:Int)))):=by exact rfl):
  LG E (Exit.inBlock id Q) (.seq (.region id' [⟨some d,.binOp .lss xt (.tmp a) (.tmp b) yt,ty,pos,after,none⟩].toArray false) (.seq (.cond (.tmp c) z (.exit id)) w)) O G:=
 fN<|T<|tU h<|bO<|aF<|pW (D hc) (Ff I)<|d8<|ax (ax (cE k))
def dr{e:α}{z w:Code}(I:xs.drop i=e::tl)(h:(oO E.N.n d (bu G a),bu G b)=(some (X (rI .i64) (i:Int)),some (X (rI .i64) (xs.length:Int))))(k:CG E (Exit.then (qL E.r E.P (.seq (.region id' [⟨some d,.binOp .lss xt (.tmp a) (.tmp b) yt,ty,pos,after,none⟩].toArray false) (.seq (.cond (.tmp c) .skip z) w)) Q) Q) w O ((d,X rB (decide ((i:Int)<(xs.length:Int))))::G))(hc:bu ((d,X rB (decide ((i:Int)<(xs.length:Int))))::G) c=some (X rB (decide ((i:Int)<(xs.length:Int)))):=by exact rfl):
  LG E Q (.seq (.region id' [⟨some d,.binOp .lss xt (.tmp a) (.tmp b) yt,ty,pos,after,none⟩].toArray false) (.seq (.cond (.tmp c) .skip z) w)) O G:=
 fN<|T<|tU h<|bO<|aF<|pV (D hc) (Dc I)<|gg k
end
def tW{y:α}{ix:Nat}{i:Int}{sz:Nat}(hu:E.P.underlying st=some (.slice e))(ti:TI E.P e sz bytes agg z)(h:(oO E.N.n d (bu G x),bu G ix)=(some (X (eY r) xs),some (X (rI j) i)))(hy:eG xs i=some y)(k:RG E ops Q l O ((d,bp r y)::G))(hsz:r.sz=sz:=by exact rfl):
  RG E ops Q (⟨some d,.indexAddr st (.tmp x) (.tmp ix),ty,pos,after,none⟩::l) O G:=zo (o5 h).1 (DV hu ti hsz (o5 h).2.1 (o5 h).2.2 hy) k
def ej{y:α}{ix:Nat}{i:Int}{sz:Nat}{p2:Nat}(hu:E.P.underlying st=some (.slice e))(ti:TI E.P e sz bytes agg z)(h:(oO E.N.n d (bu G x),bu G ix)=(some (X (eY r) xs),some (X (rI j) i)))(hy:eG xs i=some y)(k:RG E ops Q l O ((d2,X r y)::(d,bp r y)::G))(hsz:r.sz=sz:=by exact rfl)(hp2:oO E.N.n d2 (bu ((d,bp r y)::G) p2)=some (bp r y):=by exact rfl)(hs:(r.sz,r.agg)=(sz,agg):=by exact rfl):
  RG E ops Q (⟨some d,.indexAddr st (.tmp x) (.tmp ix),ty,pos,after,none⟩::⟨some d2,.load e (.tmp p2),ty2,pos2,after2,none⟩::l) O G:=tW hu ti h hy (bn ti hp2 k hs) hsz
def aR{set:α->β->α}{x:α}{y:β}{sz:Nat}{v:Nat}{ty:TypeId}(ti:TI E.P U sz bytes agg z)(hset:ff r off q set)(h:(bu G p,bu G v)=(some (tV (aq b off)),some (X q y)))(k:RG E ops Q l (bx r aT b (set x y)::O) G)(hsz:q.sz=sz:=by exact rfl)(hoff:Nat.ble (off+q.sz) r.sz=true:=by exact rfl):
  RG E ops Q (⟨none,.store U (.tmp p) (.tmp v),ty,pos,after,none⟩::l) (bx r aT b x::O) G:=cy ti hsz hset hoff (D (tH h).1) (D (tH h).2) k
def Am(n:Nat)(ops:Array Oper)(d j:Nat)(G:gJ):Option Ty:=((ops[j]?).bind (·.dst)).bind fun gs=>oO n gs (oO n d (bu G gs))
def tX{n d j:Nat}{ops:Array Oper}{t:Ty}(h:Am n ops d j G=some t): ∃gs,(ops[j]?).bind (·.dst)=some gs/\oO n gs (oO n d (bu G gs))=some t:=by
 unfold Am at h
 cases Z:(ops[j]?).bind (·.dst)with
 |none=>rw [Z]at h;cases h
 |some gs=>rw [Z]at h;exact⟨gs,rfl,h⟩
def aI{j:Nat}{b:Bool}(Z:Am E.N.n ops d j G=some (X rB b))(h:b=true->bJ E O G ⟨some d,op,ty,pos,after,some (j,true)⟩ t)(k:RG E ops Q l O ((d,iI b t)::G)):
  RG E ops Q (⟨some d,op,ty,pos,after,some (j,true)⟩::l) O G:=by obtain⟨gs,Y,H⟩:=tX Z;exact zgt Y H h k
def aV{j:Nat}{b:Bool}(Z:Am E.N.n ops d j G=some (X rB b))(h:(!b)=true->bJ E O G ⟨some d,op,ty,pos,after,some (j,false)⟩ t)(k:RG E ops Q l O ((d,iI (!b) t)::G)):
  RG E ops Q (⟨some d,op,ty,pos,after,some (j,false)⟩::l) O G:=by obtain⟨gs,Y,H⟩:=tX Z;exact zgf Y H h k
section
variable{c:Bool}
def du{x:α}{sz:Nat}(ti:TI E.P U sz bytes agg z)(hp:bu G p=some (iI c (bp r x)))(hs:(r.sz,r.agg)=(sz,agg))(hc:c=true):
  bJ E O G ⟨dst,.load U (.tmp p),ty,pos,after,g⟩ (X r x):=d6 ti (tH hs).1 (tH hs).2 (ca hp hc)
def dv{x:α}{sz:Nat}(M:co E.P aT i=some (off,sz))(hq:jE r off q get)(hp:bu G p=some (bp r x))(h0:(!(Nat.beq sz 0)&&Nat.ble (off+q.sz) r.sz)=true)(_:c=true):bJ E O G ⟨dst,.fieldAddr aT (.tmp p) i,ty,pos,after,g⟩ (bp q (get x)):=jK M hq hp h0
def cB(I:bu G x=some t)(_:c=true):bJ E O G ⟨dst,.move (.tmp x),ty,pos,after,g⟩ t:=jJ I
def rf(I:bu G x=some (iI c t))(hc:c=true):bJ E O G ⟨dst,.move (.tmp x),ty,pos,after,g⟩ t:=bS (ca I hc)
def i5(hu:E.P.underlying st=some (.slice e))(I:bu G x=some (iI c (X (eY r) xs)))(hc:c=true):
  bJ E O G ⟨dst,.call ⟨.builtin .len,#[.tmp x],#[st]⟩,ty,pos,after,g⟩ (X (rI .i64) (xs.length:Int)):=fc hu (ca I hc)
def pt{b:Bool}(I:bu G x=some (iI c (X rB b)))(hc:c=true):bJ E O G ⟨dst,.unOp .not xt (.tmp x),ty,pos,after,g⟩ (X rB (!b)):=fV (ca I hc)
end
def aP(h:oO E.N.n d (bu G x)=some t)(k:CG E Q y O ((d,t)::G)):RG E ops (Exit.then (y.wpIn (fw E.r) 0 E.P Q) Q) [⟨some d,.assign (.tmp x),ty,pos,after,none⟩] O G:=f9 h (bO k)
def cU(h:AT E Q .ret O G):RG E ops (Exit.then (Code.ret.wpIn (fw E.r) 0 E.P Q) Q) [] O G:=bO (hJ h)
def bt(h:oO E.N.n d (bu G x)=some t)(k:AT E Q .ret O ((d,t)::G)):RG E ops (Exit.then (Code.ret.wpIn (fw E.r) 0 E.P Q) Q) [⟨some d,.assign (.tmp x),ty,pos,after,none⟩] O G:=f9 h (cU k)
def ba{id:Nat}{z:Code}(h:RG E l.toArray (Exit.then (y.wpIn (fw E.r) 0 E.P (Exit.then (z.wpIn (fw E.r) 0 E.P Q) Q)) (Exit.then (z.wpIn (fw E.r) 0 E.P Q) Q)) l O G):CG E Q (.seq (.seq (.region id l.toArray false) y) z) O G:=aF (T h)
def aW{id:Nat}(h:oO E.N.n d (bu G x)=some t)(k:RG E ((⟨some d,.move (.tmp x),ty,pos,after,none⟩::l).toArray) (Exit.then (y.wpIn (fw E.r) 0 E.P Q) Q) l O ((d,t)::G)):
  CG E Q (.seq (.region id (⟨some d,.move (.tmp x),ty,pos,after,none⟩::l).toArray false) y) O G:=T (bg h k)
def da{α β:Type _}{a:Option α}{f:α->Option β}{R:β}{fid:FuncId}{xs:List Operand}{u:α->Ty}(h:a.bind f=some R)(hc:ah E.P fid=true)(hs: ∀{y},a=some y->cj E.P fid ts (u y))(I:ew E.N G xs ts)(k: ∀y,f y=some R->RG E ops Q l O ((d,u y)::G))(hd:Nat.blt d E.N.n=true:=by exact rfl):RG E ops Q (⟨some d,.call ⟨.value (.func fid),xs.toArray,ats⟩,ty,pos,after,none⟩::l) O G:=
 cq h fun y hy h=>oq (cg hc (hs hy) I) hd (k y h)
def mM{α β:Type _}{a:Option α}{f:α->Option β}{R:β}{r:Rp γ}{zs:α->List γ}{fid:FuncId}{xs:List Operand}(h:a.bind f=some R)(hc:ah E.P fid=true)(hs: ∀{y},a=some y->ev E.P fid ts false r aT (zs y))(I:ew E.N G xs ts)(k: ∀y,f y=some R-> ∀b cap,RG E ops Q l (dX r aT b cap (zs y)::O) ((d,tV (aM b cap (zs y).length))::G))(hd:Nat.blt d E.N.n=true:=by exact rfl):
  RG E ops Q (⟨some d,.call ⟨.value (.func fid),xs.toArray,ats⟩,ty,pos,after,none⟩::l) O G:=cq h fun y hy h=>Dr hc (hs hy) I hd (k y h)
def cP{e:α}{id:Nat}(I:xs.drop i=e::tl)(hN:xs.length<=maxLen)(h:oO E.N.n d (bu G a)=some (X (rI .i64) (i:Int)))(k:AT E Q .normal O ((d2,X (rI .i64) ((i+1:Nat):Int))::(d,X (rI .i64) ((i+1:Nat):Int))::G))(H:oO E.N.n d2 (bu ((d,X (rI .i64) ((i+1:Nat):Int))::G) b)=some (X (rI .i64) ((i+1:Nat):Int)):=by exact rfl):
  AT E (Exit.inBlock id (Exit.then ((Code.region id' [⟨some d,.binOp .add xt (.tmp a) (.const (.int .i64 1)) yt,ty,pos,after,none⟩,⟨some d2,.move (.tmp b),ty2,pos2,after2,none⟩].toArray false).wpIn (fw E.r) 0 E.P Q) Q)) .normal O G:=
 aO<|au<|aC<|zo (cv h).1 (Ie (AJ I hN) (cv h).2)<|bg H<|bc k
def GQ{e:α}{b2 d3 id:Nat}{ty3:TypeId}{pos3:String}{after3:Array Edge}(I:xs.drop i=e::tl)(hN:xs.length<=maxLen)(h:oO E.N.n d (bu G a)=some (X (rI .i64) (i:Int)))(k:AT E Q .normal O ((d3,X (rI .i64) ((i+1:Nat):Int))::(d2,X (rI .i64) ((i+1:Nat):Int))::(d,X (rI .i64) (i:Int))::G))(Y:oO E.N.n d2 (bu ((d,X (rI .i64) (i:Int))::G) b)=some (X (rI .i64) (i:Int)):=by exact rfl)(H:oO E.N.n d3 (bu ((d2,X (rI .i64) ((i+1:Nat):Int))::(d,X (rI .i64) (i:Int))::G) b2)=some (X (rI .i64) ((i+1:Nat):Int)):=by exact rfl):
  AT E (Exit.inBlock id (Exit.then ((Code.region id' [⟨some d,.move (.tmp a),ty,pos,after,none⟩,⟨some d2,.binOp .add xt (.tmp b) (.const (.int .i64 1)) yt,ty2,pos2,after2,none⟩,⟨some d3,.assign (.tmp b2),ty3,pos3,after3,none⟩].toArray false).wpIn (fw E.r) 0 E.P Q) Q)) .normal O G:=
 aO<|au<|aC<|bg h<|zo (cv Y).1 (Ie (AJ I hN) (cv Y).2)<|f9 H<|bc k
section
variable{e:α}{q1 q2 d3 d4 id:Nat}{ty3 ty4 u:TypeId}{pos3 pos4:String}{after3 after4:Array Edge}{z w:Code}
end
end
variable{ae:Nat}{P:Program}
section
variable{l:List Oper}{d:Nat}
def gb(r:Rp α)(k:RG E ops Q l O ((d,X (eY r) [])::G))(hd:Nat.blt d E.N.n=true:=by exact rfl):RG E ops Q (⟨some d,.assign (.const (.slice none 0 0)),ty,pos,after,none⟩::l) O G:=zo hd (bF vB) k
def cw{β:Type _}{tD h1:Option β}{r:β}{x:Code}{b:Bool}(h:(if b=true then tD else h1)=some r)(V:bu G c=some (X rB b))(I:tD=some r->CG E Q x O G)(hy:h1=some r->CG E Q y O G):
  RG E ops (Exit.then ((Code.cond (.tmp c) x y).wpIn (fw E.r) 0 E.P Q) Q) [] O G:=bO (jH h V I hy)
def cZ{id:Nat}{ae:Act->World->Prop}(h:AT E Q .ret O G):AT E (Exit.inBlock id (Exit.then ae Q)) .ret O G:=jG (ak h)
def dh{n:Int}(k:AT E Q .ret O ((d,X (rI j) n)::G))(hd:Nat.blt d E.N.n=true:=by exact rfl):RG E ops (Exit.then (Code.ret.wpIn (fw E.r) 0 E.P Q) Q) [⟨some d,.assign (.const (.int j n)),ty,pos,after,none⟩] O G:=zo hd If (cU k)
def de{f:FuncId}{fn:Func}{c:Code}{N:Nat}(M:P.funcs[f]? =some fn)(V:(fn.body,fn.ntmps,Nat.ble ts.length fn.ntmps)=(some c,N,true))(h: ∀{w0 S0},CG ⟨P,⟨N,[]⟩,la,w0,S0,none⟩ (bodyPost P fn (vD ⟨P,⟨N,[]⟩,la,w0,S0,none⟩ t)) c [] (ol 0 ts)):cj P f ts t:=by
 obtain⟨Y,H⟩:=tH V
 obtain⟨H,h3⟩:=tH H
 subst H
 exact cj.of M Y rfl h3 fun _ _=>h
section
def GR{G:gJ}:bu ((k,t)::G) k=some t:=by simp [bu]
def gK(h:ts[i]? =some u)(hu:bu G x=some u)(V:([(⟨x,u,none⟩:Nd)].all (jd l ⟨dst,.move (.tmp x),ty,pos,after,g⟩ i)&&cQ i ⟨dst,.move (.tmp x),ty,pos,after,g⟩&&g.isNone)=true:=by exact rfl):
  ∃(needs:List Nd) (t:Ty),ts[i]? =some t/\lb G ts needs/\(needs.all (jd l ⟨dst,.move (.tmp x),ty,pos,after,g⟩ i))=true/\cQ i ⟨dst,.move (.tmp x),ty,pos,after,g⟩=true/\bG E O l.toArray (eM needs) ⟨dst,.move (.tmp x),ty,pos,after,g⟩ t:=
 lV x h hu (jJ GR) V
def ga{v:α}{sz:Nat}(j:Nat)(ti:TI E.P U sz bytes agg z)(h:ts[i]? =some (X r v))(hu:ts[j]? =some (bp r v))(hs:(r.sz,r.agg)=(sz,agg):=by exact rfl)(V:([(⟨x,bp r v,some j⟩:Nd)].all (jd l ⟨dst,.load U (.tmp x),ty,pos,after,g⟩ i)&&cQ i ⟨dst,.load U (.tmp x),ty,pos,after,g⟩&&g.isNone)=true:=by exact rfl):
  ∃(needs:List Nd) (t:Ty),ts[i]? =some t/\lb G ts needs/\(needs.all (jd l ⟨dst,.load U (.tmp x),ty,pos,after,g⟩ i))=true/\cQ i ⟨dst,.load U (.tmp x),ty,pos,after,g⟩=true/\bG E O l.toArray (eM needs) ⟨dst,.load U (.tmp x),ty,pos,after,g⟩ t:=
 dg x j h hu (lc ti GR hs) V
end
end

section
variable{d:Nat}
end

variable{S:SH}
def Co{α:Type}{r r' :Rp α}(h: ∀S cs x,r.rc S cs x->r'.rc S cs x){S:SH}: ∀{xs:List α} {cs:List Value},mD r S cs xs->mD r' S cs xs
 |[],_,k=>k
 |_::_,_,⟨a,b,e,Y,H⟩=>⟨a,b,e,h _ _ _ Y,Co h H⟩
def E8{α:Type}{R:Nat->Rp α}(up: ∀n S cs x,(R n).rc S cs x->(R (n+1)).rc S cs x){S:SH}{cs:List Value}{x:α}{n:Nat}(h:(R n).rc S cs x): ∀k,(R (n+k)).rc S cs x
 |0=>h
 |k+1=>up _ _ _ _ (E8 up h k)
def GS{R:Nat->Rp α}(up: ∀n S cs x,(R n).rc S cs x->(R (n+1)).rc S cs x){cs:List Value}{x:α}{n:Nat}(h:(R n).rc S cs x)(hm:n<=m):(R m).rc S cs x:=by
 obtain⟨k,rfl⟩:=Nat.exists_eq_add_of_le hm
 exact E8 up h k
def yd{α:Type}{r:Rp α}{R:Nat->Rp α}(up: ∀n S cs x,(R n).rc S cs x->(R (n+1)).rc S cs x)(h: ∀S cs x,r.rc S cs x-> ∃n,(R n).rc S cs x){S:SH}: ∀{xs:List α} {cs:List Value},mD r S cs xs-> ∃n,∀m,n<=m->mD (R m) S cs xs
 |[],_,k=>⟨0,fun _ _=>k⟩
 |_::_,_,⟨a,b,e,Y,H⟩=>by
  obtain⟨n1,g1⟩:=h _ _ _ Y
  obtain⟨n2,g2⟩:=yd up h H
  exact⟨max n1 n2,fun m hm=>⟨a,b,e,GS up g1 (by omega),g2 m (by omega)⟩⟩
structure RM{α β:Type}(ae:Nat)(F:Rp α->Rp β):Prop where
 sz: ∀r r',r.sz=ae->r'.sz=ae->(F r).sz=(F r').sz
 mono: ∀r r',r.sz=ae->r'.sz=ae->(∀S cs x,r.rc S cs x->r'.rc S cs x)-> ∀S cs x,(F r).rc S cs x->(F r').rc S cs x
 cont: ∀(R:Nat->Rp α),(∀n,(R n).sz=ae)->(∀n S cs x,(R n).rc S cs x->(R (n+1)).rc S cs x)-> ∀r,r.sz=ae->(∀S cs x,r.rc S cs x-> ∃n,(R n).rc S cs x)-> ∀S cs x,(F r).rc S cs x-> ∃n,∀m,n<=m->(F (R m)).rc S cs x
def RM.const(p:Rp β):RM ae (fun _:Rp α=>p):=⟨fun _ _ _ _=>rfl,fun _ _ _ _ _ _ _ _ h=>h,fun _ _ _ _ _ _ _ _ _ h=>⟨0,fun _ _=>h⟩⟩
def RM.sl:RM ae (fun r:Rp α=>eY r):=by
 refine⟨fun _ _ _ _=>rfl,fun r r' Y H h S cs x=>?_,fun R hR up r hr h S cs x=>?_⟩
 ·rintro⟨a,cap,e,q1,q2,q3⟩
  refine⟨a,cap,e,q1,q2,q3.imp id ?_⟩
  rintro⟨b,off,c,E,fr,e1,e2,e3⟩
  rw [Y]at e3
  refine⟨b,off,c,E,fr,e1,e2,?_⟩
  rw [H]
  exact Co h e3
 ·rintro⟨a,cap,e,q1,q2,q3⟩
  rcases q3 with q3|⟨b,off,c,E,fr,e1,e2,e3⟩
  ·exact⟨0,fun m _=>⟨a,cap,e,q1,q2,.inl q3⟩⟩
  ·rw [hr]at e3
   obtain⟨n,hn⟩:=yd up h e3
   refine⟨n,fun m hm=>⟨a,cap,e,q1,q2,.inr ⟨b,off,c,E,fr,e1,e2,?_⟩⟩⟩
   rw [hR]
   exact hn m hm
def AL{F:Rp α->Rp β}{G:Rp α->Rp γ}(h:RM ae F)(k:RM ae G):RM ae (fun r=>cC (F r) (G r)):=by
 refine⟨fun r r' Y H=>?_,fun r r' Y H h3 S cs x=>?_,fun R hR up r hr h3 S cs x=>?_⟩
 ·show(F r).sz+(G r).sz=_+_
  rw [h.sz r r' Y H,k.sz r r' Y H]
 ·rintro⟨a,b,e,q1,q2⟩
  exact⟨a,b,e,h.mono r r' Y H h3 _ _ _ q1,k.mono r r' Y H h3 _ _ _ q2⟩
 ·rintro⟨a,b,e,q1,q2⟩
  obtain⟨n1,g1⟩:=h.cont R hR up r hr h3 _ _ _ q1
  obtain⟨n2,g2⟩:=k.cont R hR up r hr h3 _ _ _ q2
  exact⟨max n1 n2,fun m hm=>⟨a,b,e,g1 m (by omega),g2 m (by omega)⟩⟩
def RM.map{F:Rp α->Rp β}(f:γ->β)(h:RM ae F):RM ae (fun r=>lO (F r) f):=
 ⟨fun r r' Y H=>h.sz r r' Y H,fun r r' Y H h3 S cs x q=>h.mono r r' Y H h3 S cs (f x) q,fun R hR up r hr h3 S cs x q=>h.cont R hR up r hr h3 S cs (f x) q⟩
def Ct(α:Type)(ae:Nat):Rp α where
 sz:=ae
 agg:=true
 rc:=fun _ _ _=>False
 mono:=fun _ h=>h
 len:=fun h=>h.elim
 one:=fun h=>h.elim
 sc:=fun h=>by cases h
def D4{α:Type}(F:Rp α->Rp α)(ae:Nat):Nat->Rp α
 |0=>Ct α ae
 |n+1=>F (D4 F ae n)
def sv{α:Type}{F:Rp α->Rp α}{ae:Nat}(h:RM ae F)(h0:(F (Ct α ae)).sz=ae): ∀n,(D4 F ae n).sz=ae
 |0=>rfl
 |n+1=>(h.sz _ _ (sv h h0 n) rfl).trans h0
def Cq{α:Type}{F:Rp α->Rp α}{ae:Nat}(h:RM ae F)(h0:(F (Ct α ae)).sz=ae): ∀n S cs x,(D4 F ae n).rc S cs x->(D4 F ae (n+1)).rc S cs x
 |0,_,_,_,q=>q.elim
 |n+1,S,cs,x,q=>h.mono _ _ (sv h h0 n) (sv h h0 (n+1)) (Cq h h0 n) S cs x q
def Cs{α:Type}{F:Rp α->Rp α}{ae:Nat}(h:RM ae F)(h0:(F (Ct α ae)).sz=ae):Rp α where
 sz:=ae
 agg:=true
 rc:=fun S cs x=> ∃n,(D4 F ae n).rc S cs x
 mono:=fun hle ⟨n,q⟩=>⟨n,(D4 F ae n).mono hle q⟩
 len:=fun⟨n,q⟩=>((D4 F ae n).len q).trans (sv h h0 n)
 one:=fun⟨n,q⟩=>(D4 F ae n).one q
 sc:=fun h=>by cases h
def Cr{F:Rp α->Rp α}(h:RM ae F)(h0:(F (Ct α ae)).sz=ae)(S:SH)(cs:List Value)(x:α):(Cs h h0).rc S cs x↔(F (Cs h h0)).rc S cs x:=by
 constructor
 ·rintro⟨n,q⟩
  cases n with
  |zero=>exact q.elim
  |succ n=>exact h.mono _ (Cs h h0) (sv h h0 n) rfl (fun _ _ _ q=>⟨n,q⟩) S cs x q
 ·intro q
  obtain⟨n,hn⟩:=h.cont (D4 F ae) (sv h h0) (Cq h h0) (Cs h h0) rfl (fun _ _ _ q=>q) S cs x q
  exact⟨n+1,hn n (iZ n)⟩
def wW{r' :Rp α}(e: ∀S cs x,r.rc S cs x↔r'.rc S cs x)(h:jE r' off q get):jE r off q get:=fun S cs x k=>h S cs x ((e S cs x).1 k)
def uh{r' :Rp α}{set:α->β->α}(e: ∀S cs x,r.rc S cs x↔r'.rc S cs x)(h:ff r' off q set):ff r off q set:=fun S cs x ds y k k2=>(e _ _ _).2 (h S cs x ds y ((e S cs x).1 k) k2)

def pA(n:FuncId)(b:Nat):Value:= .func (.func n) #[] #[aq b 0]
def tk(n:FuncId)(b:Nat):Ty where
 p:=fun S v=>v=aq b 0/\ ∃c E fr,S b=some (.cells c E fr)/\(c.toList.drop 0).take 1=[pA n b]
 mono:=fun h ⟨e,c,E,fr,Y,H⟩=>by
  obtain⟨o',h3,h4⟩:=h _ _ Y
  obtain⟨c',rfl,h5⟩:=rr h4 (by rw [H];rfl)
  exact⟨e,c',E,fr,h3,by rw [h5];exact H⟩
section
def Cy{x:Operand}(I:aD E.N G x (tV (aq b 0))):bJ E O G ⟨dst,.makeFunc (.func n) #[] #[x],ty,pos,after,g⟩ (tV (pA n b)):=
 .of_pure fun a w S _ _ M=>⟨pA n b,by
  have Y:a.eval x=aq b 0:=I S a M
  simp [execOp,Instr.makeFunc,Y,pA],rfl⟩
def hSV{x:Operand}(h:aD N G x (tV (pA n b))):aD N G x (X rV (pA n b)):=fun S a M=>mA.2 ⟨h S a M,rfl⟩
def yq{p:Operand}(ti:TI E.P U 1 bytes false z)(hp:aD E.N G p (tk n b)):bJ E O G ⟨dst,.load U p,ty,pos,after,g⟩ (tV (pA n b)):=
  (d6 (r:=rV) (x:=pA n b) ti rfl rfl (fun S a M=>by
    obtain⟨e,c,E,fr,Y,H⟩:=hp S a M
    exact⟨b,0,c,E,fr,e,Y,H,rfl⟩)).imp fun _ _ h=>(mA.1 h).1
def yr{fo cp:Operand}{xs:List Operand}(M:aD E.N G fo (tV (pA n b)))(hcp:aD E.N G cp (tk n b))(hc:ah E.P n=true)(hs:cj E.P n (ts++[tk n b]) t)(I:ew E.N G xs ts):
  bJ E O G ⟨dst,.call ⟨.value fo,xs.toArray,ats⟩,ty,pos,after,g⟩ t:=fun a w S hS _ hF=>by
 have e:a.eval fo=pA n b:=M S a hF
 have hr:(execOp a.eval ⟨dst,.call ⟨.value fo,xs.toArray,ats⟩,ty,pos,after,g⟩).run E.P w= .ok (.enter n ((xs.map a.eval).toArray++ #[aq b 0])) w:=by
  simp [execOp,resolve,e,pA,Deferred.ofValue,invoke,dN hc]
 refine⟨fun c h=>(by cases h),?_⟩
 rw [hr]
 have e2:(xs.map a.eval).toArray++ #[aq b 0]=((xs.map a.eval)++[aq b 0]).toArray:=by simp
 rw [e2]
 have V:(tk n b).p S (aq b 0):=by
  have:=hcp S a hF
  exact⟨rfl,this.2⟩
 have hb2:pm S [tk n b] [aq b 0]:=⟨V,trivial⟩
 exact(hs w S _ hS ((I.tys hF).append hb2)).mono fun e w' ⟨v,S',he,Y,H,h3⟩=>⟨v,he,v,S',rfl,Y,H,h3⟩
end
variable{rest:List Oper}
section
variable{c:Code}{e:Exit}
def St.settleS{a:Act}(h:St E (bx rV aT b (pA n b)::O) G a w S)(hk:bu G k=some (tV (aq b 0))): ∃S',St E O ((k,tk n b)::G) a w S' :=by
 obtain⟨⟨hn,cur,h3,h4⟩,_⟩:=h.own.1
 obtain⟨h8,hle,_,_⟩:=oF h rfl h3 (mX _) hn
 have hv:a.tmps.getD k undef=aq b 0:=h.facts.at_ k _ hk
 refine⟨_,h8.cons ⟨hv,cur,aT,(0,0),by simp [SH.set],?_⟩⟩
 rw [h4.1];rfl
def Af(k:Nat)(hk:bu G k=some (tV (aq b 0)))(h:RG E ops Q rest O ((k,tk n b)::G)):RG E ops Q rest (bx rV aT b (pA n b)::O) G:=
 fun a w _ st=>let⟨S',st'⟩:=st.settleS hk;h a w S' st'
end

def Iz(v:Value):Prop:= ∃fid fst cap,v= .func fid fst cap
def xR(P:Program){α β:Type}(args:α->List Ty)(res:β->Ty)(f:α->Option β):Ty where
 p:=fun S v=>Iz v/\(GK P args res f).p S v
 mono:=fun h k=>⟨k.1,(GK P args res f).mono h k.2⟩
def zi{args:α->List Ty}{res:β->Ty}{x:Operand}(h:aD N G x (jW P args res f)):aD N G x (xR P args res f):=fun S a M=>
 ⟨by obtain⟨fid,cap,e,_⟩:=h S a M;exact⟨_,_,_,e⟩,FI h S a M⟩
def Ii(P:Program){α β:Type}(args:α->List Ty)(res:β->Ty)(o:Option (α->Option β)):Ty where
 p:=fun S v=>match o with|some f=>(xR P args res f).p S v|none=>v= .nilFunc
 mono:=fun h k=>by
  cases o with
  |none=>exact k
  |some f=>exact(xR P args res f).mono h k
section
variable{κ:Type} [DecidableEq κ]{kv:κ->Value}{k:κ}{t kt et:TypeId}{x i:Operand}{dst:Option Nat}{φ:Type}{args:α->List Ty}{res:β->Ty}{F:φ->α->Option β}
def yp{m:List (κ×φ)}(hm:E.P.underlying t=some (.map kt et))(hk:u7 E.P kt kv)(hz:ZV E.P et .nilFunc)(I:aD E.N G x (B5 (fun y=>xR E.P args res (F y)) kv m))(hi:wp E.N G i (kv k)):
  bJ E O G ⟨dst,.lookup t x i false,ty,pos,after,g⟩ (Ii E.P args res ((oL m k).map F)):= .of_pure fun a w S hs ho M=>by
 obtain⟨b,es,clock,Y,h3,h4⟩:=I S a M
 obtain⟨o',h5,h6⟩:=hs b _ h3
 have h7:o' = .map es clock:=h6
 subst h7
 obtain⟨q,hq,hd,hinj⟩:=hk
 have H:a.eval i=kv k:=hi S a M
 obtain⟨_,_,_,h8⟩:=lA hd hinj (k:=k) 0 (Dt (w:=w) h4)
 rcases h8 with⟨g1,g2⟩|⟨y,o,e,j,g1,g2,g3,g4,g5⟩
 ·refine⟨.nilFunc,by simp [execOp,Y,H,iA hm hq (hd k) h5 hz g2],?_⟩
  rw [g1];rfl
 ·refine⟨e.val,by simp [execOp,Y,H,iA hm hq (hd k) h5 hz g4],?_⟩
  rw [g1];exact g3.2
def hFo{o:Option φ}(h:aD N G x (Ii P args res (o.map F))):aD N G x (GK P args res (fun y=>(o.bind fun f=>F f y))):=fun S a M=>by
 have:=h S a M
 cases o with
 |none=>exact D0
 |some f=>exact this.2
def Cx{o:Option (α->Option β)}(D: ∃ps rs vd,E.P.underlying xt=some (.func ps rs vd))(I:aD E.N G x (Ii E.P args res o)):bJ E O G ⟨dst,.binOp .neq xt x (.const .nilFunc) yt,ty,pos,after,g⟩ (X rB o.isSome):=
 .of_pure fun a w S _ _ M=>by
  have Y:=I S a M
  obtain⟨ps,rs,vd,hu⟩:=D
  have hcn:a.eval (.const .nilFunc)= .nilFunc:=rfl
  cases o with
  |none=>
   have H:a.eval x= .nilFunc:=Y
   have h3:(Op.equal xt .nilFunc .nilFunc).run E.P w= .ok true w:=rk fun d=>by simp [Op.equalIn,gy hu]
   exact⟨.bool false,by simp [execOp,H,hcn,eqGuard,binOp,h3],fz.2 rfl⟩
  |some f=>
   obtain⟨⟨fid,fst,cap,H⟩,_⟩:=Y
   have h3:(Op.equal xt (.func fid fst cap) .nilFunc).run E.P w= .ok false w:=rk fun d=>by simp [Op.equalIn,gy hu]
   exact⟨.bool true,by simp [execOp,H,hcn,eqGuard,binOp,h3],fz.2 rfl⟩
def Br{o:Option φ}(D: ∃ps rs vd,E.P.underlying xt=some (.func ps rs vd))(I:aD E.N G x (Ii E.P args res (o.map F))):bJ E O G ⟨dst,.binOp .neq xt x (.const .nilFunc) yt,ty,pos,after,g⟩ (X rB o.isSome):=by
 have h:=Cx (O:=O) (dst:=dst) (yt:=yt) (ty:=ty) (pos:=pos) (after:=after) (g:=g) D I
 rwa [Option.isSome_map]at h
end

abbrev d9{α:Type}(x:List (List α))(i:Nat):List α:=(x[i]?).getD []
def uK{n:Nat}(hi:i<n):jE (kE rV n) i rV (fun x=>(x[i]?).getD undef):=fun S cs x h=>by
 have hlt:i<x.length:=by rw [h.1];exact hi
 have Y:=oJ h.2 (lX hlt)
 rw [show rV.sz=1 from rfl,Nat.mul_one]at Y
 show rV.rc S (List.take rV.sz (List.drop i cs)) ((x[i]?).getD undef)
 rw [show rV.sz=1 from rfl,lX hlt]
 exact Y
def G3{S:SH}: ∀{vs cs:List Value},mD rV S cs vs->cs=vs
 |[],_,h=>h
 |v::vs,_,⟨a,b,e,Y,H⟩=>by
  rw [e,Y.1,G3 H];rfl
def GF{α:Type}(r:Rp α)(S:SH):List Value->List α->Prop
 |[],[]=>True
 |v::vs,x::xs=>r.rc S [v] x/\GF r S vs xs
 |_,_=>False
def yS{α:Type}{r:Rp α}{S:SH}: ∀{vs:List Value} {xs:List α},GF r S vs xs->mD r S vs xs/\xs.length=vs.length
 |[],[],_=>⟨rfl,rfl⟩
 |v::vs,x::xs,⟨Y,H⟩=>by
  obtain⟨g1,g2⟩:=yS H
  exact⟨⟨[v],vs,rfl,Y,g1⟩,by simp [g2]⟩
def GE{n:Nat}{cs vs:List Value}(h:(kE rV n).rc S cs vs)(k:GF r S vs xs):(kE r n).rc S cs xs:=by
 obtain⟨Y,H⟩:=h
 obtain⟨g1,g2⟩:=yS k
 rw [G3 H]
 exact⟨by rw [g2,Y],g1⟩

section
variable{c:Code}
def Gt{l:List α}{e:α}(h:xs.drop i=e::l):(i:Int)<(xs.length:Int):=by
 have:=congrArg List.length h
 simp at this
 omega
def vw{mm:Bool}{n:Nat}{x ix:Operand}{y:α}{t:TypeId}{k:IntKind}{i:Int}{sz:Nat}(D:E.P.underlying t=some (.slice e))(ti:TI E.P e sz bytes agg z)(hm:gI mm r U l cap xs∈O)(I:aD E.N G x (tV (aM l cap n)))(hi:aD E.N G ix (X (rI k) i))(hy:eG xs i=some y)(hlt:i<(n:Int)):
  bJ E O G ⟨dst,.indexAddr t x ix,ty,pos,after,g⟩ (tV (gu l (i.toNat*sz+0))):=
 .of_pure fun a w S _ ho M=>by
  have Y:a.eval x=aM l cap n:=I S a M
  have h3:a.eval ix= .int k i:=dG.1 (hi S a M)
  obtain⟨h0,hy'⟩:=fy hy
  obtain⟨b,cur,rfl,_⟩:=lN (ho.mem _ hm).1 hy'
  refine⟨_,?_,rfl⟩
  have hc:0<=i/\i<(n:Int):=⟨h0,hlt⟩
  simp [execOp,Y,h3,aM,Instr.indexAt,asIntOf,gy D,hc,ti.sizeOf,fe,gu,aq]
end
def sj(P:Program)(fn:Func)(h' i j k:Nat)(h:fn.results= #[.tmp h',.tmp i,.tmp j,.tmp k])(tmps:Array Value)(w:World):(results fn tmps).run P w= .ok (.tuple #[tmps.getD h' undef,tmps.getD i undef,tmps.getD j undef,tmps.getD k undef]) w:=by
 simp [results,h]
def xy{N:Nat}{B:Nat->Prop}{w0:World}{S0:SH}{fn:Func}{j:Nat}{s v:Ty}(hr:fn.results= #[.tmp m,.tmp i,.tmp j,.tmp k])(hm:bu G m=some s)(hi:bu G i=some t)(hj:bu G j=some u)(hk:bu G k=some v):
  AT ⟨P,⟨N,[]⟩,B,w0,S0,none⟩ (bodyPost P fn (vD ⟨P,⟨N,[]⟩,B,w0,S0,none⟩ (tT [s,t,u,v]))) .ret O G:=fun _ _ S st=>
 ⟨st.facts.defers,_,sj P fn m i j k hr _ _,_,S,rfl,st.ext,st.sat,[_,_,_,_],rfl,st.facts.at_ m s hm,st.facts.at_ i t hi,st.facts.at_ j u hj,st.facts.at_ k v hk,trivial⟩
open Go.Sort Go.Shelf

variable{os:Array Obj}
def rz(h:k<w.heap.size):(grow w os).heap[k]? =w.heap[k]? :=by
 unfold grow;exact Array.getElem?_append_left h
variable{enc:α->Value}
def yz [Inhabited α](h:k≠b):(putRow enc w b off d).heap[k]? =w.heap[k]? :=by
 unfold putRow mapBlock
 rw [Array.getElem?_modify,ei (Ne.symm h)]
def ry [Inhabited α](hk:k<w.heap.size)(h:k≠b):(sortWorld enc w b off m d os).heap[k]? =w.heap[k]? :=by
 unfold sortWorld
 rw [rz (by rw [size_putRow];exact hk),yz h];rfl
def wV [Inhabited α]{c:Array Value}{fr:Nat×Nat}(h:w.heap[b]? =some (.cells c aT fr)):
  (sortWorld enc w b off m d os).heap[b]? =some (.cells (putCells enc off d c) aT fr):=by
 have hlt:=(qz.1 h).1
 unfold sortWorld
 rw [rz (by rw [size_putRow];exact hlt)]
 unfold putRow mapBlock
 rw [Array.getElem?_modify,eF rfl]
 show Option.map _ (w.heap[b]?)=_
 rw [h];rfl
def vu [Inhabited α]{c:Array Value}(h:d.size<=c.size):(putCells enc 0 d c).toList.take d.size=d.toList.map enc:=by
 apply xI
 intro k
 by_cases hk:k<d.size
 ·rw [tN hk]
  have hc:k<c.size:=by omega
  simp [putCells,hc,hk]
 ·rw [A1 (by simp;omega),A1 (by simp;omega)]
section
variable{d:Nat}
def yT{n:Nat}(hl:m=n)(s:Nat)(hs:bu G s=some (tV (aM l cap n)))(k:RG E ops Q rest O ((s,tV (aM l cap m))::G)):RG E ops Q rest O G:=by
 subst hl
 exact fun a w S st=>k a w S ⟨st.ext,st.sat,st.own,⟨st.facts.size,st.facts.defers,fun j t h=>by
  unfold bu at h
  by_cases V:Nat.beq s j=true
  ·rw [V]at h
   have:=kB V
   subst this
   have e:tV (aM l cap m)=t:=by simpa using h
   rw [<-e];exact st.facts.at_ s _ hs
  ·rw [q8]at V
   rw [V]at h
   exact st.facts.at_ j t h⟩⟩
end

def GL{α:Type}(cmp:α×α->Option Int)(x y:α):Bool:=
 match cmp (x,y)with
 |some c=>decide (c<0)
 |none=>false
structure Good{α:Type}(cmp:α×α->Option Int)(xs:List α):Prop where
 len:xs.length<=1099511627776
 tot: ∀x∈xs,∀y∈xs,(cmp (x,y)).isSome=true
 irr: ∀x∈xs,GL cmp x x=false
 tr: ∀x∈xs,∀y∈xs,∀z∈xs,GL cmp x y=true->GL cmp y z=true->GL cmp x z=true
 anti: ∀x∈xs,∀y∈xs,GL cmp x y=false->GL cmp y x=false->x=y
def sortI(xs:List Int):List Int:=xs.mergeSort fun x y=>decide (x<=y)
def se(xs:List Int):(sortI xs).length=xs.length:=by unfold sortI;simp
def vY(x:Int):List Int->List Int
 |[]=>[x]
 |y::l=>if x<=y then x::y::l else y::vY x l
def Bw:List Int->List Int
 |[]=>[]
 |x::l=>vY x (Bw l)
def qO(x:Int): ∀l:List Int,(vY x l).Perm (x::l)
 |[]=> .refl _
 |y::l=>by
  unfold vY
  split
  ·exact .refl _
  ·exact((qO x l).cons y).trans (.swap x y l)
def vX: ∀l:List Int,(Bw l).Perm l
 |[]=> .refl _
 |x::l=>(qO x (Bw l)).trans ((vX l).cons x)
def yy(x:Int): ∀l:List Int,l.Pairwise (· <= ·)->(vY x l).Pairwise (· <= ·)
 |[],_=>List.pairwise_singleton _ _
 |y::l,h=>by
  have hy: ∀z∈l,y<=z:=fun z hz=>List.rel_of_pairwise_cons h hz
  unfold vY
  split
  ·rename_i I
   refine List.Pairwise.cons (fun z hz=>?_) h
   rcases eV.1 hz with rfl|hz
   ·exact I
   ·exact Int.le_trans I (hy z hz)
  ·rename_i I
   refine List.Pairwise.cons (fun z hz=>?_) (yy x l (List.Pairwise.of_cons h))
   rcases eV.1 ((qO x l).mem_iff.1 hz)with rfl|hz
   ·omega
   ·exact hy z hz
def Ay: ∀l:List Int,(Bw l).Pairwise (· <= ·)
 |[]=> .nil
 |x::l=>yy x _ (Ay l)
def Ea(l:List Int):Bw l=sortI l:=by
 refine List.Perm.eq_of_pairwise (le:=(· <= ·)) (fun a b _ _ Y H=>Int.le_antisymm Y H) (Ay l) ?_ ((vX l).trans (List.mergeSort_perm l _).symm)
 have:=List.pairwise_mergeSort (le:=fun x y:Int=>decide (x<=y)) (fun a b c Y H=>by simp at*;omega) (fun a b=>by simp;omega) l
 exact this.imp fun h=>by simpa using h
def ub(xs:List Int):Option (List Int):=if xs.length<=68719476736 then some (Bw xs)else none
def vJ(xs:List Int):ub xs=if xs.length<=68719476736 then some (sortI xs)else none:=by
 unfold ub
 rw [Ea]
def xU{xs ys:List Int}(h:ub xs=some ys):xs.length<=68719476736/\ys=sortI xs:=by
 rw [vJ]at h
 split at h
 ·exact⟨by assumption,by simpa using h.symm⟩
 ·cases h


def Av{k:IntKind}{S:SH}: ∀{xs:List Int} {cs:List Value},mD (rI k) S cs xs->cs=xs.map (Value.int k)
 |[],cs,h=>by rw [show cs=[]from h];rfl
 |x::xs,cs,⟨a,b,e,Y,H⟩=>by
  rw [e,show a=[.int k x]from Y,Av H]
  rfl
def Ax{k:IntKind}{S:SH}: ∀xs:List Int,mD (rI k) S (xs.map (Value.int k)) xs
 |[]=>rfl
 |x::xs=>⟨[.int k x],_,rfl,rfl,Ax xs⟩
def Bg{ρ:Ren}(L:Lays.n189 P ρ){xs:List Int}(hlen0:xs.length<=68719476736)(hs:gc w S)(h:(dX (rI .i64) aT l cap xs).p w S):
  Calls P (ρ.f 189) #[aM l cap xs.length] w fun e w' =>e= .returned (.tuple #[])/\ez (fun k=>l=some k) w S w' S/\gc w' S/\(dX (rI .i64) aT l cap (sortI xs)).p w' S:=by
 cases l with
 |none=>
  have I:xs=[]:=ra (by obtain⟨_,h4,_⟩:=h;exact h4.1)
  subst I
  exact(Any.slices_Sort_int_none (P:=P) (ρ:=ρ) L none 0 w).mono fun _ _ ⟨Y,H⟩=>by subst H;exact⟨Y,ez.refl _ _ _,hs,by simpa [sortI] using h⟩
 |some b=>
  obtain⟨cells0,⟨cur,V,hle,hmax,hcs,hct⟩,hrc,hno0⟩:=h
  have hno:S b=none:=hno0 b rfl
  subst hct
  have Y:(rI .i64).sz=1:=rfl
  rw [Y,Nat.mul_one]at hcs hrc
  have hcells:=Av hrc
  have hH:Holds (Value.int .i64) w b 0 xs.toArray:=by
   intro j hj
   have hj' :j<xs.length:=by simpa using hj
   have hc:cur[j]? =some (Value.int .i64 xs.toArray[j]!):=by
    have:(cur.toList.take xs.length)[j]? =some (Value.int .i64 xs.toArray[j]!):=by
     rw [hcells,List.getElem?_map,getElem!_pos xs.toArray j hj]
     simp [hj']
    rw [tN (by omega)]at this
    simpa using this
   refine⟨by simp [World.cell?,V,hc],?_⟩
   simp [World.frozen?,V]
  have hblk:=(qz.1 V).1
  have hcall:=calls_of_every_depth fun ht=>AnyS.slices_Sort_int_alone (P:=P) (ρ:=ρ) L ht b 0 cap xs w hH hblk (by omega)
  refine hcall.mono fun e w' ⟨he,n,os,hw⟩=>?_
  have hlen:=se xs
  have hw2:w' =sortWorld (Value.int .i64) w b 0 n (sortI xs).toArray os:=hw
  subst hw2
  refine⟨he,⟨rfl,rfl,rfl,Nat.le_add_right _ _,?_,fun k hk hkb=>ry hk (fun e=>hkb (by rw [e])),SH.le_refl _,fun _ _ _=>rfl⟩,hs.same fun k o hk=>?_,⟨_,⟨_,wV V,by omega,hmax,?_,rfl⟩,?_,hno0⟩⟩
  ·unfold sortWorld;rw [size_grow,size_putRow];exact Nat.le_add_right _ _
  ·have hkb:k≠b:=fun e=>by subst e;rw [hno]at hk;cases hk
   exact ry (hs.lt hk) hkb
  ·simp [putCells,Y,hcs]
  ·have e1:(sortI xs).length*(rI .i64).sz=(sortI xs).toArray.size:=by rw [Y];simp
   rw [e1,vu (by simp;omega)]
   exact Ax (sortI xs)
section
variable{d:Nat}
def Dq{ρ:Ren}(L:Lays.n189 E.P ρ){f:FuncId}(M:ρ.f 189=f)(hc:ah E.P f=true){n:Nat}{xs ys:List Int}{x:Operand}(hy:ub xs=some ys)(I:aD E.N G x (tV (aM l cap n)))(hn:n=xs.length)(hd:Nat.blt d E.N.n=true)(k:ys.length=n->RG E ops Q rest (dX (rI .i64) aT l cap ys::O) ((d,qF)::G)):RG E ops Q (⟨some d,.call ⟨.value (.func f),#[x],ats⟩,ty,pos,after,none⟩::rest) (dX (rI .i64) aT l cap xs::O) G:= .of rfl fun a w S st=>by
 obtain⟨hl0,rfl⟩:=xU hy
 subst M
 subst hn
 have Y:a.eval x=aM l cap xs.length:=I S a st.facts
 have hr:(execOp a.eval ⟨some d,.call ⟨.value (.func (ρ.f 189)),#[x],ats⟩,ty,pos,after,none⟩).run E.P w= .ok (.enter (ρ.f 189) #[aM l cap xs.length]) w:=by
  have e0:a.eval (.func (ρ.f 189))= .func (.func (ρ.f 189)) #[] #[]:=rfl
  simp [execOp,resolve,e0,Y,Deferred.ofValue,invoke,dN hc]
 refine⟨fun c h=>(by cases h),?_⟩
 rw [hr]
 refine(Bg L hl0 st.sat st.own.1.1).mono fun e w' ⟨he,hext,hsat,hp⟩=>⟨_,he,?_⟩
 have hfp: ∀g∈O,∀b,g.fp b-> ¬(l=some b):=fun g Z b V hl=>st.own.2.1 g Z b hl V
 refine k (se xs) _ _ S ⟨st.ext.step hext (fun c hc=>st.own.1.2 c hc),hsat,⟨⟨hp,st.own.1.2⟩,st.own.2.1,st.own.2.2.ext hext hfp⟩,?_⟩;exact(st.facts.mono hext.keep).put hd trivial
end
end Go.Proofs.YtbmmihfagmchaaaGreat

