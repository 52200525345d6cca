/- cW of this claim: W64, W63, W67, W68, W69, W70, W58, W60, W44, W55, W29. -/
import Derived.Test.YtbmmihfagmchaaaGreatRcV3
import Derived.Test.YtbmmihfagmchaaaGreatRcV1
import Derived.Test.YtbmmihfagmchaaaGreatRcV2
import Derived.Shelf.GgSortFunc.Insertion
import Derived.Shelf.Slices.In.SortNone
set_option linter.all false
namespace Go.Proofs.YtbmmihfagmchaaaGreat
open Go

variable{α:Type}{d:Array α}{n:FuncId}{r:Rp α}{t:Ty}
def tF{n d:Nat}{r s:Option Ty}{u:Ty}(h:(te n d r,s)=(some t,some u)):Nat.blt d n=true/\r=some t/\s=some u:=
 ⟨(cT (uf h).1).1,(cT (uf h).1).2,(uf h).2⟩
def Nq(G:jZ):Operand->Option Ty
 | .tmp k=>bM G k
 | .const (.int k n)=>some (H (rI k) n)
 | .const (.bool b)=>some (H rB b)
 |_=>none
variable{G:jZ}{N:Fr}{x:Nat}
def FG: ∀{x:Operand},Nq G x=some t->aF N G x t
 | .tmp _,h=>D h
 | .const (.int _ _),h=>by cases h;exact hI
 | .const (.bool _),h=>by cases h;exact hB
variable{ts:List Ty}{xs:List α}
def co{N:Fr}{G:jZ}: ∀{xs:List Operand} {ts:List Ty},xs.map (Nq G)=ts.map some->il N G xs ts
 |[],[],_=>trivial
 |_::_,_::_,h=>⟨FG (List.cons.inj h).1,co (List.cons.inj h).2⟩

variable{E:En}{O:List OE}{Q:Exit->Act->World->Prop}{hg U:TypeId}{a:Nat}{after after2:Array Edge}{agg:Bool}{ats:Array TypeId}{b bytes c cap:Nat}{dst:Option Tmp}{e:TypeId}{β:Type}{f:α->Option β}{g:Option (Nat×Bool)}{get:α->β}{i id' :Nat}{j:IntKind}{k:Nat}{l:Option Nat}{m off:Nat}{ops:Array Oper}{p:Nat}{pos pos2:String}{q:Rp β}{st:TypeId}{tl:List α}{ty ty2:TypeId}{w:World}{xt:TypeId}{y:Code}{yt:TypeId}{z:List Value}{γ:Type}
section
variable{l:List Oper}{d:Nat}{op:Op}
def K(h:bT E O G ⟨some d,op,ty,pos,after,none⟩ t)(k:RG E ops Q l O ((d,t)::G))(hd:Nat.blt d E.N.n=true:=by exact rfl):
  RG E ops Q (⟨some d,op,ty,pos,after,none⟩::l) O G:=sQ h hd k
def bw{x:α}{sz:Nat}(ti:TI E.P U sz bytes agg z)(hp:te E.N.n d (bM G p)=some (bC r x))(k:RG E ops Q l O ((d,H r x)::G))(hs:(r.sz,r.agg)=(sz,agg):=by exact rfl):RG E ops Q (⟨some d,.load U (.tmp p),ty,pos,after,none⟩::l) O G:=zo (cT hp).1 (pe ti (cT hp).2 hs) k
def pB{x:α}{sz:Nat}(X:cP E.P hg i=some (off,sz))(hq:mj r off q get)(hp:te E.N.n d (bM G p)=some (bC r x))(k:RG E ops Q l O ((d,bC q (get x))::G))(h0:(!(Nat.beq sz 0)&&Nat.ble (off+q.sz) r.sz)=true:=by exact rfl):
  RG E ops Q (⟨some d,.fieldAddr hg (.tmp p) i,ty,pos,after,none⟩::l) O G:=zo (cT hp).1 (nN X hq (cT hp).2 h0) k
def bP{x:α}{sz s2:Nat}{d2 p2:Nat}(X:cP E.P hg i=some (off,sz))(hq:mj r off q get)(ti:TI E.P U s2 bytes agg z)(hp:te E.N.n d (bM G p)=some (bC r x))(k:RG E ops Q l O ((d2,H q (get x))::(d,bC q (get x))::G))(h0:(!(Nat.beq sz 0)&&Nat.ble (off+q.sz) r.sz)=true:=by exact rfl)(hp2:te E.N.n d2 (bM ((d,bC q (get x))::G) p2)=some (bC q (get x)):=by exact rfl)(hs:(q.sz,q.agg)=(s2,agg):=by exact rfl):
  RG E ops Q (⟨some d,.fieldAddr hg (.tmp p) i,ty,pos,after,none⟩::⟨some d2,.load U (.tmp p2),ty2,pos2,after2,none⟩::l) O G:=pB X hq hp (bw ti hp2 k hs) h0
def bJ{sz o:Nat}(n:Nat)(X:cP E.P hg i=some (off,sz))(hp:te E.N.n d (bM G p)=some (tV (ax b o)))(k:RG E ops Q l O ((d,tV (ax b n))::G))(h0:Nat.beq sz 0=false:=by exact rfl)(he:o+off=n:=by exact rfl):RG E ops Q (⟨some d,.fieldAddr hg (.tmp p) i,ty,pos,after,none⟩::l) O G:=zo (cT hp).1 (rW n X h0 (cT hp).2 he) k
def bZ(I:te E.N.n d (bM G x)=some (tT ts))(hi:ts[i]? =some t)(k:RG E ops Q l O ((d,t)::G)):RG E ops Q (⟨some d,.extract (.tmp x) i,ty,pos,after,none⟩::l) O G:=zo (cT I).1 (Bh hi (cT I).2) k
def dj{n:Int}(k:RG E ops Q l O ((d,H (rI j) n)::G))(hd:Nat.blt d E.N.n=true:=by exact rfl):RG E ops Q (⟨some d,.assign (.const (.int j n)),ty,pos,after,none⟩::l) O G:=zo hd RS k
def cn{b:Bool}(k:RG E ops Q l O ((d,H rB b)::G))(hd:Nat.blt d E.N.n=true:=by exact rfl):RG E ops Q (⟨some d,.assign (.const (.bool b)),ty,pos,after,none⟩::l) O G:=zo hd RE k
def cA(hu:E.P.underlying st=some (.slice e))(I:te E.N.n d (bM G x)=some (H (gJ r) xs))(k:RG E ops Q l O ((d,H (rI .i64) (xs.length:Int))::G)):
  RG E ops Q (⟨some d,.call ⟨.builtin .len,#[.tmp x],#[st]⟩,ty,pos,after,none⟩::l) O G:=zo (cT I).1 (PM hu (cT I).2) k
def dh{v:α}(I:te E.N.n d (bM G x)=some (H r v))(k:RG E ops Q l O ((d,bC r v)::G)):RG E ops Q (⟨some d,.box hg (.tmp x),ty,pos,after,none⟩::l) O G:=zo (cT I).1 (zbx (cT I).2) k
def fZ{b q:Bool}(h:(te E.N.n d (bM G c),bM G x)=(some (H rB b),some (lC b (H rB q))))(k:RG E ops Q l O ((d,H rB (b&&q))::G)):
  RG E ops Q (⟨some d,.pick (.tmp c) (.tmp x) (.const (.bool false)),ty,pos,after,none⟩::l) O G:=zo (tF h).1 (PA (tF h).2.1 (tF h).2.2) k
def nv{b q:Bool}(h:(te E.N.n d (bM G c),bM G x)=(some (H rB b),some (lC (!b) (H rB q))))(k:RG E ops Q l O ((d,H rB (b||q))::G)):
  RG E ops Q (⟨some d,.pick (.tmp c) (.const (.bool true)) (.tmp x),ty,pos,after,none⟩::l) O G:=zo (tF h).1 (RR (tF h).2.1 (tF h).2.2) k
section
variable{y:Nat}{m n:Int}
def zD(h:(te E.N.n d (bM G x),bM G y)=(some (H (rI j) m),some (H (rI j) n)))(k:RG E ops Q l O ((d,H rB (decide (m<n)))::G)):
  RG E ops Q (⟨some d,.binOp .lss xt (.tmp x) (.tmp y) yt,ty,pos,after,none⟩::l) O G:=zo (tF h).1 (zlt (tF h).2.1 (tF h).2.2) k
def dz(I:te E.N.n d (bM G x)=some (H (rI j) m))(k:RG E ops Q l O ((d,H rB (m==n))::G)):RG E ops Q (⟨some d,.binOp .eql xt (.tmp x) (.const (.int j n)) yt,ty,pos,after,none⟩::l) O G:=zo (cT I).1 (PD (cT I).2) k
def lH(I:te E.N.n d (bM G x)=some (H (rI j) m))(k:RG E ops Q l O ((d,H rB (m !=n))::G)):RG E ops Q (⟨some d,.binOp .neq xt (.tmp x) (.const (.int j n)) yt,ty,pos,after,none⟩::l) O G:=zo (cT I).1 (zni (cT I).2) k
def nw{c:Bool}(I:bM G x=some (lC c (H (rI j) m)))(hc:c=true):bT E O G ⟨dst,.binOp .eql xt (.tmp x) (.const (.int j n)) yt,ty,pos,after,g⟩ (H rB (m==n)):=gZ (df I hc) hI
def BR{c:Bool}(I:bM G x=some (lC c (H (rI j) m)))(hc:c=true):bT E O G ⟨dst,.binOp .neq xt (.tmp x) (.const (.int j n)) yt,ty,pos,after,g⟩ (H rB (m !=n)):=jt (df I hc) hI
def fa{id:Nat}{z w:Code}(I:xs.drop i=[])(h:(te E.N.n d (bM G a),bM G b)=(some (H (rI .i64) (i:Int)),some (H (rI .i64) (xs.length:Int))))(k:AT E Q .normal O ((d,H rB (decide ((i:Int)<(xs.length:Int))))::G))(hc:bM ((d,H rB (decide ((i:Int)<(xs.length:Int))))::G) c=some (H rB (decide ((i:Int)<(xs.length:Int)))):=by exact rfl):
  LG E (Exit.inBlock id Q) (.seq (.region id' [⟨some d,.binOp .lss xt (.tmp a) (.tmp b) yt,ty,pos,after,none⟩].toArray false) (.seq (.cond (.tmp c) z (.exit id)) w)) O G:=
 kw<|aV<|zD h<|cb<|aI<|xx (D hc) (NI I)<|iz<|aM (aM (dW k))
def eZ{e:α}{z w:Code}(I:xs.drop i=e::tl)(h:(te E.N.n d (bM G a),bM G b)=(some (H (rI .i64) (i:Int)),some (H (rI .i64) (xs.length:Int))))(k:CG E (Exit.then (wk E.r E.P (.seq (.region id' [⟨some d,.binOp .lss xt (.tmp a) (.tmp b) yt,ty,pos,after,none⟩].toArray false) (.seq (.cond (.tmp c) .skip z) w)) Q) Q) w O ((d,H rB (decide ((i:Int)<(xs.length:Int))))::G))(hc:bM ((d,H rB (decide ((i:Int)<(xs.length:Int))))::G) c=some (H rB (decide ((i:Int)<(xs.length:Int)))):=by exact rfl):
  LG E Q (.seq (.region id' [⟨some d,.binOp .lss xt (.tmp a) (.tmp b) yt,ty,pos,after,none⟩].toArray false) (.seq (.cond (.tmp c) .skip z) w)) O G:=
 kw<|aV<|zD h<|cb<|aI<|xw (D hc) (KK I)<|kF k
end
def zE{y:α}{ix:Nat}{i:Int}{sz:Nat}(hu:E.P.underlying st=some (.slice e))(ti:TI E.P e sz bytes agg z)(h:(te E.N.n d (bM G x),bM G ix)=(some (H (gJ r) xs),some (H (rI j) i)))(hy:cU xs i=some y)(k:RG E ops Q l O ((d,bC r y)::G))(hsz:r.sz=sz:=by exact rfl):
  RG E ops Q (⟨some d,.indexAddr st (.tmp x) (.tmp ix),ty,pos,after,none⟩::l) O G:=zo (tF h).1 (H1 hu ti hsz (tF h).2.1 (tF h).2.2 hy) k
def gF{y:α}{ix:Nat}{i:Int}{sz:Nat}{d2 p2:Nat}(hu:E.P.underlying st=some (.slice e))(ti:TI E.P e sz bytes agg z)(h:(te E.N.n d (bM G x),bM G ix)=(some (H (gJ r) xs),some (H (rI j) i)))(hy:cU xs i=some y)(k:RG E ops Q l O ((d2,H r y)::(d,bC r y)::G))(hsz:r.sz=sz:=by exact rfl)(hp2:te E.N.n d2 (bM ((d,bC r y)::G) p2)=some (bC r y):=by exact rfl)(hs:(r.sz,r.agg)=(sz,agg):=by exact rfl):
  RG E ops Q (⟨some d,.indexAddr st (.tmp x) (.tmp ix),ty,pos,after,none⟩::⟨some d2,.load e (.tmp p2),ty2,pos2,after2,none⟩::l) O G:=zE hu ti h hy (bw ti hp2 k hs) hsz
def aO{set:α->β->α}{x:α}{y:β}{sz:Nat}{v:Nat}{ty:TypeId}(ti:TI E.P U sz bytes agg z)(hset:ij r off q set)(h:(bM G p,bM G v)=(some (tV (ax b off)),some (H q y)))(k:RG E ops Q l (bx r hg b (set x y)::O) G)(hsz:q.sz=sz:=by exact rfl)(hoff:Nat.ble (off+q.sz) r.sz=true:=by exact rfl):
  RG E ops Q (⟨none,.store U (.tmp p) (.tmp v),ty,pos,after,none⟩::l) (bx r hg b x::O) G:=dd ti hsz hset hoff (D (uf h).1) (D (uf h).2) k
def G5(n:Nat)(ops:Array Oper)(d j:Nat)(G:jZ):Option Ty:=((ops[j]?).bind (·.dst)).bind fun gs=>te n gs (te n d (bM G gs))
def zF{n d j:Nat}{ops:Array Oper}{t:Ty}(h:G5 n ops d j G=some t): ∃gs,(ops[j]?).bind (·.dst)=some gs/\te n gs (te n d (bM G gs))=some t:=by
 unfold G5 at h
 cases T:(ops[j]?).bind (·.dst)with
 |none=>rw [T]at h;cases h
 |some gs=>rw [T]at h;exact⟨gs,rfl,h⟩
def aE{j:Nat}{b:Bool}(T:G5 E.N.n ops d j G=some (H rB b))(h:b=true->bT E O G ⟨some d,op,ty,pos,after,some (j,true)⟩ t)(k:RG E ops Q l O ((d,lC b t)::G)):
  RG E ops Q (⟨some d,op,ty,pos,after,some (j,true)⟩::l) O G:=by obtain⟨gs,Y,J⟩:=zF T;exact zgt Y J h k
def cw{j:Nat}{b:Bool}(T:G5 E.N.n ops d j G=some (H rB b))(h:(!b)=true->bT E O G ⟨some d,op,ty,pos,after,some (j,false)⟩ t)(k:RG E ops Q l O ((d,lC (!b) t)::G)):
  RG E ops Q (⟨some d,op,ty,pos,after,some (j,false)⟩::l) O G:=by obtain⟨gs,Y,J⟩:=zF T;exact zgf Y J h k
section
variable{c:Bool}
def ev{x:α}{sz:Nat}(ti:TI E.P U sz bytes agg z)(hp:bM G p=some (lC c (bC r x)))(hs:(r.sz,r.agg)=(sz,agg))(hc:c=true):
  bT E O G ⟨dst,.load U (.tmp p),ty,pos,after,g⟩ (H r x):=ir ti (uf hs).1 (uf hs).2 (df hp hc)
def ez{x:α}{sz:Nat}(X:cP E.P hg i=some (off,sz))(hq:mj r off q get)(hp:bM G p=some (bC r x))(h0:(!(Nat.beq sz 0)&&Nat.ble (off+q.sz) r.sz)=true)(_:c=true):bT E O G ⟨dst,.fieldAddr hg (.tmp p) i,ty,pos,after,g⟩ (bC q (get x)):=nN X hq hp h0
def fV(I:bM G x=some t)(_:c=true):bT E O G ⟨dst,.move (.tmp x),ty,pos,after,g⟩ t:=nb I
def yA(I:bM G x=some (lC c t))(hc:c=true):bT E O G ⟨dst,.move (.tmp x),ty,pos,after,g⟩ t:=ci (df I hc)
def p5(hu:E.P.underlying st=some (.slice e))(I:bM G x=some (lC c (H (gJ r) xs)))(hc:c=true):
  bT E O G ⟨dst,.call ⟨.builtin .len,#[.tmp x],#[st]⟩,ty,pos,after,g⟩ (H (rI .i64) (xs.length:Int)):=ke hu (df I hc)
def zG{b:Bool}(I:bM G x=some (lC c (H rB b)))(hc:c=true):bT E O G ⟨dst,.unOp .not xt (.tmp x),ty,pos,after,g⟩ (H rB (!b)):=iY (df I hc)
end
def aY(h:te E.N.n d (bM G x)=some t)(k:CG E Q y O ((d,t)::G)):RG E ops (Exit.then (y.wpIn (fw E.r) 0 E.P Q) Q) [⟨some d,.assign (.tmp x),ty,pos,after,none⟩] O G:=jy h (cb k)
def da(h:AT E Q .ret O G):RG E ops (Exit.then (Code.ret.wpIn (fw E.r) 0 E.P Q) Q) [] O G:=cb (mo h)
def bG(h:te E.N.n d (bM G x)=some t)(k:AT E Q .ret O ((d,t)::G)):RG E ops (Exit.then (Code.ret.wpIn (fw E.r) 0 E.P Q) Q) [⟨some d,.assign (.tmp x),ty,pos,after,none⟩] O G:=jy h (da k)
def bl{id:Nat}{z:Code}(h:RG E l.toArray (Exit.then (y.wpIn (fw E.r) 0 E.P (Exit.then (z.wpIn (fw E.r) 0 E.P Q) Q)) (Exit.then (z.wpIn (fw E.r) 0 E.P Q) Q)) l O G):CG E Q (.seq (.seq (.region id l.toArray false) y) z) O G:=aI (aV h)
def aZ{id:Nat}(h:te E.N.n d (bM G x)=some t)(k:RG E ((⟨some d,.move (.tmp x),ty,pos,after,none⟩::l).toArray) (Exit.then (y.wpIn (fw E.r) 0 E.P Q) Q) l O ((d,t)::G)):
  CG E Q (.seq (.region id (⟨some d,.move (.tmp x),ty,pos,after,none⟩::l).toArray false) y) O G:=aV (bu h k)
def eu{α β:Type _}{a:Option α}{f:α->Option β}{R:β}{fid:FuncId}{xs:List Operand}{u:α->Ty}(h:a.bind f=some R)(hc:al E.P fid=true)(hs: ∀{y},a=some y->cK E.P fid ts (u y))(I:il E.N G xs ts)(k: ∀y,f y=some R->RG E ops Q l O ((d,u y)::G))(hd:Nat.blt d E.N.n=true:=by exact rfl):RG E ops Q (⟨some d,.call ⟨.value (.func fid),xs.toArray,ats⟩,ty,pos,after,none⟩::l) O G:=
 cC h fun y hy h=>sQ (cm hc (hs hy) I) hd (k y h)
def ri{α β:Type _}{a:Option α}{f:α->Option β}{R:β}{r:Rp γ}{zs:α->List γ}{fid:FuncId}{xs:List Operand}(h:a.bind f=some R)(hc:al E.P fid=true)(hs: ∀{y},a=some y->gP E.P fid ts false r hg (zs y))(I:il E.N G xs ts)(k: ∀y,f y=some R-> ∀b cap,RG E ops Q l (fD r hg b cap (zs y)::O) ((d,tV (aL b cap (zs y).length))::G))(hd:Nat.blt d E.N.n=true:=by exact rfl):
  RG E ops Q (⟨some d,.call ⟨.value (.func fid),xs.toArray,ats⟩,ty,pos,after,none⟩::l) O G:=cC h fun y hy h=>K6 hc (hs hy) I hd (k y h)
def dU{e:α}{d2 id:Nat}(I:xs.drop i=e::tl)(hN:xs.length<=maxLen)(h:te E.N.n d (bM G a)=some (H (rI .i64) (i:Int)))(k:AT E Q .normal O ((d2,H (rI .i64) ((i+1:Nat):Int))::(d,H (rI .i64) ((i+1:Nat):Int))::G))(J:te E.N.n d2 (bM ((d,H (rI .i64) ((i+1:Nat):Int))::G) b)=some (H (rI .i64) ((i+1:Nat):Int)):=by exact rfl):
  AT E (Exit.inBlock id (Exit.then ((Code.region id' [⟨some d,.binOp .add xt (.tmp a) (.const (.int .i64 1)) yt,ty,pos,after,none⟩,⟨some d2,.move (.tmp b),ty2,pos2,after2,none⟩].toArray false).wpIn (fw E.r) 0 E.P Q) Q)) .normal O G:=
 bj<|aB<|aG<|zo (cT h).1 (RD (HB I hN) (cT h).2)<|bu J<|bt k
def PO{e:α}{b2 d2 d3 id:Nat}{ty3:TypeId}{pos3:String}{after3:Array Edge}(I:xs.drop i=e::tl)(hN:xs.length<=maxLen)(h:te E.N.n d (bM G a)=some (H (rI .i64) (i:Int)))(k:AT E Q .normal O ((d3,H (rI .i64) ((i+1:Nat):Int))::(d2,H (rI .i64) ((i+1:Nat):Int))::(d,H (rI .i64) (i:Int))::G))(Y:te E.N.n d2 (bM ((d,H (rI .i64) (i:Int))::G) b)=some (H (rI .i64) (i:Int)):=by exact rfl)(J:te E.N.n d3 (bM ((d2,H (rI .i64) ((i+1:Nat):Int))::(d,H (rI .i64) (i:Int))::G) b2)=some (H (rI .i64) ((i+1:Nat):Int)):=by exact rfl):
  AT E (Exit.inBlock id (Exit.then ((Code.region id' [⟨some d,.move (.tmp a),ty,pos,after,none⟩,⟨some d2,.binOp .add xt (.tmp b) (.const (.int .i64 1)) yt,ty2,pos2,after2,none⟩,⟨some d3,.assign (.tmp b2),ty3,pos3,after3,none⟩].toArray false).wpIn (fw E.r) 0 E.P Q) Q)) .normal O G:=
 bj<|aB<|aG<|bu h<|zo (cT Y).1 (RD (HB I hN) (cT Y).2)<|jy J<|bt k
section
variable{e:α}{q1 q2 d2 d3 d4 id:Nat}{ty3 ty4 u:TypeId}{pos3 pos4:String}{after3 after4:Array Edge}{z w:Code}
end
end
variable{ah:Nat}{P:Program}
section
variable{l:List Oper}{d:Nat}
def oI(r:Rp α)(k:RG E ops Q l O ((d,H (gJ r) [])::G))(hd:Nat.blt d E.N.n=true:=by exact rfl):RG E ops Q (⟨some d,.assign (.const (.slice none 0 0)),ty,pos,after,none⟩::l) O G:=zo hd (bF BD) k
def dv{β:Type _}{hf h1:Option β}{r:β}{x:Code}{b:Bool}(h:(if b=true then hf else h1)=some r)(V:bM G c=some (H rB b))(I:hf=some r->CG E Q x O G)(hy:h1=some r->CG E Q y O G):
  RG E ops (Exit.then ((Code.cond (.tmp c) x y).wpIn (fw E.r) 0 E.P Q) Q) [] O G:=cb (oH h V I hy)
def eN{id:Nat}{ah:Act->World->Prop}(h:AT E Q .ret O G):AT E (Exit.inBlock id (Exit.then ah Q)) .ret O G:=yo (an h)
def fY{n:Int}(k:AT E Q .ret O ((d,H (rI j) n)::G))(hd:Nat.blt d E.N.n=true:=by exact rfl):RG E ops (Exit.then (Code.ret.wpIn (fw E.r) 0 E.P Q) Q) [⟨some d,.assign (.const (.int j n)),ty,pos,after,none⟩] O G:=zo hd RS (da k)
def ep{f:FuncId}{fn:Func}{c:Code}{N:Nat}(X:P.funcs[f]? =some fn)(V:(fn.body,fn.ntmps,Nat.ble ts.length fn.ntmps)=(some c,N,true))(h: ∀{w0 S0},CG ⟨P,⟨N,[]⟩,oW,w0,S0,none⟩ (bodyPost P fn (Fb ⟨P,⟨N,[]⟩,oW,w0,S0,none⟩ t)) c [] (sO 0 ts)):cK P f ts t:=by
 obtain⟨Y,J⟩:=uf V
 obtain⟨J,Z⟩:=uf J
 subst J
 exact cK.of X Y rfl Z fun _ _=>h
section
def PP{G:jZ}:bM ((k,t)::G) k=some t:=by simp [bM]
def iJ{u:Ty}(h:ts[i]? =some u)(hu:bM G x=some u)(V:([(⟨x,u,none⟩:Nd)].all (lQ l ⟨dst,.move (.tmp x),ty,pos,after,g⟩ i)&&dF i ⟨dst,.move (.tmp x),ty,pos,after,g⟩&&g.isNone)=true:=by exact rfl):
  ∃(needs:List Nd) (t:Ty),ts[i]? =some t/\oK G ts needs/\(needs.all (lQ l ⟨dst,.move (.tmp x),ty,pos,after,g⟩ i))=true/\dF i ⟨dst,.move (.tmp x),ty,pos,after,g⟩=true/\bQ E O l.toArray (g9 needs) ⟨dst,.move (.tmp x),ty,pos,after,g⟩ t:=
 qd x h hu (nb PP) V
def jf{v:α}{sz:Nat}(j:Nat)(ti:TI E.P U sz bytes agg z)(h:ts[i]? =some (H r v))(hu:ts[j]? =some (bC r v))(hs:(r.sz,r.agg)=(sz,agg):=by exact rfl)(V:([(⟨x,bC r v,some j⟩:Nd)].all (lQ l ⟨dst,.load U (.tmp x),ty,pos,after,g⟩ i)&&dF i ⟨dst,.load U (.tmp x),ty,pos,after,g⟩&&g.isNone)=true:=by exact rfl):
  ∃(needs:List Nd) (t:Ty),ts[i]? =some t/\oK G ts needs/\(needs.all (lQ l ⟨dst,.load U (.tmp x),ty,pos,after,g⟩ i))=true/\dF i ⟨dst,.load U (.tmp x),ty,pos,after,g⟩=true/\bQ E O l.toArray (g9 needs) ⟨dst,.load U (.tmp x),ty,pos,after,g⟩ t:=
 fb x j h hu (pe ti PP hs) V
end
end

section
variable{d:Nat}
end

variable{S:SH}
def JA{α:Type}{r r' :Rp α}(h: ∀S cs x,r.rc S cs x->r'.rc S cs x){S:SH}: ∀{xs:List α} {cs:List Value},qS r S cs xs->qS r' S cs xs
 |[],_,k=>k
 |_::_,_,⟨a,b,e,Y,J⟩=>⟨a,b,e,h _ _ _ Y,JA h J⟩
def Nr{α:Type}{R:Nat->Rp α}(up: ∀n S cs x,(R n).rc S cs x->(R (n+1)).rc S cs x){S:SH}{cs:List Value}{x:α}{n:Nat}(h:(R n).rc S cs x): ∀k,(R (n+k)).rc S cs x
 |0=>h
 |k+1=>up _ _ _ _ (Nr up h k)
def PQ{R:Nat->Rp α}(up: ∀n S cs x,(R n).rc S cs x->(R (n+1)).rc S cs x){cs:List Value}{x:α}{n:Nat}(h:(R n).rc S cs x)(hm:n<=m):(R m).rc S cs x:=by
 obtain⟨k,rfl⟩:=Nat.exists_eq_add_of_le hm
 exact Nr up h k
def D5{α:Type}{r:Rp α}{R:Nat->Rp α}(up: ∀n S cs x,(R n).rc S cs x->(R (n+1)).rc S cs x)(h: ∀S cs x,r.rc S cs x-> ∃n,(R n).rc S cs x){S:SH}: ∀{xs:List α} {cs:List Value},qS r S cs xs-> ∃n,∀m,n<=m->qS (R m) S cs xs
 |[],_,k=>⟨0,fun _ _=>k⟩
 |_::_,_,⟨a,b,e,Y,J⟩=>by
  obtain⟨n1,g1⟩:=h _ _ _ Y
  obtain⟨n2,g2⟩:=D5 up h J
  exact⟨max n1 n2,fun m hm=>⟨a,b,e,PQ up g1 (by omega),g2 m (by omega)⟩⟩
structure RM{α β:Type}(ah:Nat)(F:Rp α->Rp β):Prop where
 sz: ∀r r',r.sz=ah->r'.sz=ah->(F r).sz=(F r').sz
 mono: ∀r r',r.sz=ah->r'.sz=ah->(∀S cs x,r.rc S cs x->r'.rc S cs x)-> ∀S cs x,(F r).rc S cs x->(F r').rc S cs x
 cont: ∀(R:Nat->Rp α),(∀n,(R n).sz=ah)->(∀n S cs x,(R n).rc S cs x->(R (n+1)).rc S cs x)-> ∀r,r.sz=ah->(∀S cs x,r.rc S cs x-> ∃n,(R n).rc S cs x)-> ∀S cs x,(F r).rc S cs x-> ∃n,∀m,n<=m->(F (R m)).rc S cs x
def RM.const(p:Rp β):RM ah (fun _:Rp α=>p):=⟨fun _ _ _ _=>rfl,fun _ _ _ _ _ _ _ _ h=>h,fun _ _ _ _ _ _ _ _ _ h=>⟨0,fun _ _=>h⟩⟩
def RM.sl:RM ah (fun r:Rp α=>gJ r):=by
 refine⟨fun _ _ _ _=>rfl,fun r r' Y J h S cs x=>?_,fun R hR up r hr h S cs x=>?_⟩
 ·rintro⟨a,cap,e,q1,q2,q3⟩
  refine⟨a,cap,e,q1,q2,q3.imp id ?_⟩
  rintro⟨b,off,c,E,fr,e1,e2,e3⟩
  rw [Y]at e3
  refine⟨b,off,c,E,fr,e1,e2,?_⟩
  rw [J]
  exact JA h e3
 ·rintro⟨a,cap,e,q1,q2,q3⟩
  rcases q3 with q3|⟨b,off,c,E,fr,e1,e2,e3⟩
  ·exact⟨0,fun m _=>⟨a,cap,e,q1,q2,.inl q3⟩⟩
  ·rw [hr]at e3
   obtain⟨n,hn⟩:=D5 up h e3
   refine⟨n,fun m hm=>⟨a,cap,e,q1,q2,.inr ⟨b,off,c,E,fr,e1,e2,?_⟩⟩⟩
   rw [hR]
   exact hn m hm
def HJ{F:Rp α->Rp β}{G:Rp α->Rp γ}(h:RM ah F)(k:RM ah G):RM ah (fun r=>cx (F r) (G r)):=by
 refine⟨fun r r' Y J=>?_,fun r r' Y J Z S cs x=>?_,fun R hR up r hr Z S cs x=>?_⟩
 ·show(F r).sz+(G r).sz=_+_
  rw [h.sz r r' Y J,k.sz r r' Y J]
 ·rintro⟨a,b,e,q1,q2⟩
  exact⟨a,b,e,h.mono r r' Y J Z _ _ _ q1,k.mono r r' Y J Z _ _ _ q2⟩
 ·rintro⟨a,b,e,q1,q2⟩
  obtain⟨n1,g1⟩:=h.cont R hR up r hr Z _ _ _ q1
  obtain⟨n2,g2⟩:=k.cont R hR up r hr Z _ _ _ q2
  exact⟨max n1 n2,fun m hm=>⟨a,b,e,g1 m (by omega),g2 m (by omega)⟩⟩
def RM.map{F:Rp α->Rp β}(f:γ->β)(h:RM ah F):RM ah (fun r=>nP (F r) f):=
 ⟨fun r r' Y J=>h.sz r r' Y J,fun r r' Y J Z S cs x q=>h.mono r r' Y J Z S cs (f x) q,fun R hR up r hr Z S cs x q=>h.cont R hR up r hr Z S cs (f x) q⟩
def JF(α:Type)(ah:Nat):Rp α where
 sz:=ah
 agg:=true
 rc:=fun _ _ _=>False
 mono:=fun _ h=>h
 len:=fun h=>h.elim
 one:=fun h=>h.elim
 sc:=fun h=>by cases h
def LM{α:Type}(F:Rp α->Rp α)(ah:Nat):Nat->Rp α
 |0=>JF α ah
 |n+1=>F (LM F ah n)
def xS{α:Type}{F:Rp α->Rp α}{ah:Nat}(h:RM ah F)(h0:(F (JF α ah)).sz=ah): ∀n,(LM F ah n).sz=ah
 |0=>rfl
 |n+1=>(h.sz _ _ (xS h h0 n) rfl).trans h0
def JC{α:Type}{F:Rp α->Rp α}{ah:Nat}(h:RM ah F)(h0:(F (JF α ah)).sz=ah): ∀n S cs x,(LM F ah n).rc S cs x->(LM F ah (n+1)).rc S cs x
 |0,_,_,_,q=>q.elim
 |n+1,S,cs,x,q=>h.mono _ _ (xS h h0 n) (xS h h0 (n+1)) (JC h h0 n) S cs x q
def JE{α:Type}{F:Rp α->Rp α}{ah:Nat}(h:RM ah F)(h0:(F (JF α ah)).sz=ah):Rp α where
 sz:=ah
 agg:=true
 rc:=fun S cs x=> ∃n,(LM F ah n).rc S cs x
 mono:=fun hle ⟨n,q⟩=>⟨n,(LM F ah n).mono hle q⟩
 len:=fun⟨n,q⟩=>((LM F ah n).len q).trans (xS h h0 n)
 one:=fun⟨n,q⟩=>(LM F ah n).one q
 sc:=fun h=>by cases h
def JD{F:Rp α->Rp α}(h:RM ah F)(h0:(F (JF α ah)).sz=ah)(S:SH)(cs:List Value)(x:α):(JE h h0).rc S cs x↔(F (JE h h0)).rc S cs x:=by
 constructor
 ·rintro⟨n,q⟩
  cases n with
  |zero=>exact q.elim
  |succ n=>exact h.mono _ (JE h h0) (xS h h0 n) rfl (fun _ _ _ q=>⟨n,q⟩) S cs x q
 ·intro q
  obtain⟨n,hn⟩:=h.cont (LM F ah) (xS h h0) (JC h h0) (JE h h0) rfl (fun _ _ _ q=>q) S cs x q
  exact⟨n+1,hn n (dr n)⟩
def C6{r' :Rp α}(e: ∀S cs x,r.rc S cs x↔r'.rc S cs x)(h:mj r' off q get):mj r off q get:=fun S cs x k=>h S cs x ((e S cs x).1 k)
def zZ{r' :Rp α}{set:α->β->α}(e: ∀S cs x,r.rc S cs x↔r'.rc S cs x)(h:ij r' off q set):ij r off q set:=fun S cs x ds y k k2=>(e _ _ _).2 (h S cs x ds y ((e S cs x).1 k) k2)

def um(n:FuncId)(b:Nat):Value:= .func (.func n) #[] #[ax b 0]
def y5(n:FuncId)(b:Nat):Ty where
 p:=fun S v=>v=ax b 0/\ ∃c E fr,S b=some (.cells c E fr)/\(c.toList.drop 0).take 1=[um n b]
 mono:=fun h ⟨e,c,E,fr,Y,J⟩=>by
  obtain⟨o',Z,h4⟩:=h _ _ Y
  obtain⟨c',rfl,h5⟩:=wV h4 (by rw [J];rfl)
  exact⟨e,c',E,fr,Z,by rw [h5];exact J⟩
section
def JM{x:Operand}(I:aF E.N G x (tV (ax b 0))):bT E O G ⟨dst,.makeFunc (.func n) #[] #[x],ty,pos,after,g⟩ (tV (um n b)):=
 .of_pure fun a w S _ _ X=>⟨um n b,by
  have Y:a.eval x=ax b 0:=I S a X
  simp [execOp,Instr.makeFunc,Y,um],rfl⟩
def hSV{x:Operand}(h:aF N G x (tV (um n b))):aF N G x (H rV (um n b)):=fun S a X=>qg.2 ⟨h S a X,rfl⟩
def El{p:Operand}(ti:TI E.P U 1 bytes false z)(hp:aF E.N G p (y5 n b)):bT E O G ⟨dst,.load U p,ty,pos,after,g⟩ (tV (um n b)):=
  (ir (r:=rV) (x:=um n b) ti rfl rfl (fun S a X=>by
    obtain⟨e,c,E,fr,Y,J⟩:=hp S a X
    exact⟨b,0,c,E,fr,e,Y,J,rfl⟩)).imp fun _ _ h=>(qg.1 h).1
def Em{fo cp:Operand}{xs:List Operand}(X:aF E.N G fo (tV (um n b)))(hcp:aF E.N G cp (y5 n b))(hc:al E.P n=true)(hs:cK E.P n (ts++[y5 n b]) t)(I:il E.N G xs ts):
  bT E O G ⟨dst,.call ⟨.value fo,xs.toArray,ats⟩,ty,pos,after,g⟩ t:=fun a w S hS _ hF=>by
 have e:a.eval fo=um n b:=X S a hF
 have hr:(execOp a.eval ⟨dst,.call ⟨.value fo,xs.toArray,ats⟩,ty,pos,after,g⟩).run E.P w= .ok (.enter n ((xs.map a.eval).toArray++ #[ax b 0])) w:=by
  simp [execOp,resolve,e,um,Deferred.ofValue,invoke,fE hc]
 refine⟨fun c h=>(by cases h),?_⟩
 rw [hr]
 have e2:(xs.map a.eval).toArray++ #[ax b 0]=((xs.map a.eval)++[ax b 0]).toArray:=by simp
 rw [e2]
 have V:(y5 n b).p S (ax b 0):=by
  have:=hcp S a hF
  exact⟨rfl,this.2⟩
 have hb2:tX S [y5 n b] [ax b 0]:=⟨V,trivial⟩
 exact(hs w S _ hS ((I.tys hF).append hb2)).mono fun e w' ⟨v,S',he,Y,J,Z⟩=>⟨v,he,v,S',rfl,Y,J,Z⟩
end
variable{rest:List Oper}
section
variable{c:Code}{e:Exit}
def St.settleS{a:Act}(h:St E (bx rV hg b (um n b)::O) G a w S)(hk:bM G k=some (tV (ax b 0))): ∃S',St E O ((k,y5 n b)::G) a w S' :=by
 obtain⟨⟨hn,cur,Z,h4⟩,_⟩:=h.own.1
 obtain⟨h8,hle,_,_⟩:=s5 h rfl Z (qU _) hn
 have hv:a.tmps.getD k undef=ax b 0:=h.facts.at_ k _ hk
 refine⟨_,h8.cons ⟨hv,cur,hg,(0,0),by simp [SH.set],?_⟩⟩
 rw [h4.1];rfl
def GR(k:Nat)(hk:bM G k=some (tV (ax b 0)))(h:RG E ops Q rest O ((k,y5 n b)::G)):RG E ops Q rest (bx rV hg b (um n b)::O) G:=
 fun a w _ st=>let⟨S',st'⟩:=st.settleS hk;h a w S' st'
end

def R0(v:Value):Prop:= ∃fid fst cap,v= .func fid fst cap
def DP(P:Program){α β:Type}(args:α->List Ty)(res:β->Ty)(f:α->Option β):Ty where
 p:=fun S v=>R0 v/\(PG P args res f).p S v
 mono:=fun h k=>⟨k.1,(PG P args res f).mono h k.2⟩
def FK{args:α->List Ty}{res:β->Ty}{x:Operand}(h:aF N G x (kK P args res f)):aF N G x (DP P args res f):=fun S a X=>
 ⟨by obtain⟨fid,cap,e,_⟩:=h S a X;exact⟨_,_,_,e⟩,Ok h S a X⟩
def RH(P:Program){α β:Type}(args:α->List Ty)(res:β->Ty)(o:Option (α->Option β)):Ty where
 p:=fun S v=>match o with|some f=>(DP P args res f).p S v|none=>v= .nilFunc
 mono:=fun h k=>by
  cases o with
  |none=>exact k
  |some f=>exact(DP P args res f).mono h k
section
variable{κ:Type} [DecidableEq κ]{kv:κ->Value}{k:κ}{t kt et:TypeId}{x i:Operand}{dst:Option Nat}{φ:Type}{args:α->List Ty}{res:β->Ty}{F:φ->α->Option β}
def Ek{m:List (κ×φ)}(hm:E.P.underlying t=some (.map kt et))(hk:A7 E.P kt kv)(hz:ZV E.P et .nilFunc)(I:aF E.N G x (Ja (fun y=>DP E.P args res (F y)) kv m))(hi:Cs E.N G i (kv k)):
  bT E O G ⟨dst,.lookup t x i false,ty,pos,after,g⟩ (RH E.P args res ((n7 m k).map F)):= .of_pure fun a w S hs ho X=>by
 obtain⟨b,es,clock,Y,Z,h4⟩:=I S a X
 obtain⟨o',h5,h6⟩:=hs b _ Z
 have h7:o' = .map es clock:=h6
 subst h7
 obtain⟨q,hq,hd,hinj⟩:=hk
 have J:a.eval i=kv k:=hi S a X
 obtain⟨_,_,_,h8⟩:=o5 hd hinj (k:=k) 0 (K9 (w:=w) h4)
 rcases h8 with⟨g1,g2⟩|⟨y,o,e,j,g1,g2,g3,g4,g5⟩
 ·refine⟨.nilFunc,by simp [execOp,Y,J,lh hm hq (hd k) h5 hz g2],?_⟩
  rw [g1];rfl
 ·refine⟨e.val,by simp [execOp,Y,J,lh hm hq (hd k) h5 hz g4],?_⟩
  rw [g1];exact g3.2
def hFo{o:Option φ}(h:aF N G x (RH P args res (o.map F))):aF N G x (PG P args res (fun y=>(o.bind fun f=>F f y))):=fun S a X=>by
 have:=h S a X
 cases o with
 |none=>exact LC
 |some f=>exact this.2
def JL{o:Option (α->Option β)}(D: ∃ps rs vd,E.P.underlying xt=some (.func ps rs vd))(I:aF E.N G x (RH E.P args res o)):bT E O G ⟨dst,.binOp .neq xt x (.const .nilFunc) yt,ty,pos,after,g⟩ (H rB o.isSome):=
 .of_pure fun a w S _ _ X=>by
  have Y:=I S a X
  obtain⟨ps,rs,vd,hu⟩:=D
  have hcn:a.eval (.const .nilFunc)= .nilFunc:=rfl
  cases o with
  |none=>
   have J:a.eval x= .nilFunc:=Y
   have Z:(Op.equal xt .nilFunc .nilFunc).run E.P w= .ok true w:=uU fun d=>by simp [Op.equalIn,jB hu]
   exact⟨.bool false,by simp [execOp,J,hcn,eqGuard,binOp,Z],iC.2 rfl⟩
  |some f=>
   obtain⟨⟨fid,fst,cap,J⟩,_⟩:=Y
   have Z:(Op.equal xt (.func fid fst cap) .nilFunc).run E.P w= .ok false w:=uU fun d=>by simp [Op.equalIn,jB hu]
   exact⟨.bool true,by simp [execOp,J,hcn,eqGuard,binOp,Z],iC.2 rfl⟩
def Ip{o:Option φ}(D: ∃ps rs vd,E.P.underlying xt=some (.func ps rs vd))(I:aF E.N G x (RH E.P args res (o.map F))):bT E O G ⟨dst,.binOp .neq xt x (.const .nilFunc) yt,ty,pos,after,g⟩ (H rB o.isSome):=by
 have h:=JL (O:=O) (dst:=dst) (yt:=yt) (ty:=ty) (pos:=pos) (after:=after) (g:=g) D I
 rwa [Option.isSome_map]at h
end

abbrev mz{α:Type}(x:List (List α))(i:Nat):List α:=(x[i]?).getD []
def AB{n:Nat}(hi:i<n):mj (nQ rV n) i rV (fun x=>(x[i]?).getD undef):=fun S cs x h=>by
 have hlt:i<x.length:=by rw [h.1];exact hi
 have Y:=s9 h.2 (rg hlt)
 rw [show rV.sz=1 from rfl,Nat.mul_one]at Y
 show rV.rc S (List.take rV.sz (List.drop i cs)) ((x[i]?).getD undef)
 rw [show rV.sz=1 from rfl,rg hlt]
 exact Y
def Qk{S:SH}: ∀{vs cs:List Value},qS rV S cs vs->cs=vs
 |[],_,h=>h
 |v::vs,_,⟨a,b,e,Y,J⟩=>by
  rw [e,Y.1,Qk J];rfl
def Py{α:Type}(r:Rp α)(S:SH):List Value->List α->Prop
 |[],[]=>True
 |v::vs,x::xs=>r.rc S [v] x/\Py r S vs xs
 |_,_=>False
def Fh{α:Type}{r:Rp α}{S:SH}: ∀{vs:List Value} {xs:List α},Py r S vs xs->qS r S vs xs/\xs.length=vs.length
 |[],[],_=>⟨rfl,rfl⟩
 |v::vs,x::xs,⟨Y,J⟩=>by
  obtain⟨g1,g2⟩:=Fh J
  exact⟨⟨[v],vs,rfl,Y,g1⟩,by simp [g2]⟩
def Pw{n:Nat}{cs vs:List Value}(h:(nQ rV n).rc S cs vs)(k:Py r S vs xs):(nQ r n).rc S cs xs:=by
 obtain⟨Y,J⟩:=h
 obtain⟨g1,g2⟩:=Fh k
 rw [Qk J]
 exact⟨by rw [g2,Y],g1⟩

section
variable{c:Code}
def GC{l:List α}{e:α}(h:xs.drop i=e::l):(i:Int)<(xs.length:Int):=by
 have:=congrArg List.length h
 simp at this
 omega
def si{mm:Bool}{n:Nat}{x ix:Operand}{y:α}{t:TypeId}{k:IntKind}{i:Int}{sz:Nat}(D:E.P.underlying t=some (.slice e))(ti:TI E.P e sz bytes agg z)(hm:jS mm r U l cap xs∈O)(I:aF E.N G x (tV (aL l cap n)))(hi:aF E.N G ix (H (rI k) i))(hy:cU xs i=some y)(hlt:i<(n:Int)):
  bT E O G ⟨dst,.indexAddr t x ix,ty,pos,after,g⟩ (tV (jn l (i.toNat*sz+0))):=
 .of_pure fun a w S _ ho X=>by
  have Y:a.eval x=aL l cap n:=I S a X
  have Z:a.eval ix= .int k i:=fq.1 (hi S a X)
  obtain⟨h0,hy'⟩:=iT hy
  obtain⟨b,cur,rfl,_⟩:=pI (ho.mem _ hm).1 hy'
  refine⟨_,?_,rfl⟩
  have hc:0<=i/\i<(n:Int):=⟨h0,hlt⟩
  simp [execOp,Y,Z,aL,Instr.indexAt,asIntOf,jB D,hc,ti.sizeOf,iI,jn,ax]
end
open Go.Sort Go.Shelf

variable{os:Array Obj}
def xc(h:k<w.heap.size):(grow w os).heap[k]? =w.heap[k]? :=by
 unfold grow;exact Array.getElem?_append_left h
variable{enc:α->Value}
def EN [Inhabited α](h:k≠b):(putRow enc w b off d).heap[k]? =w.heap[k]? :=by
 unfold putRow mapBlock
 rw [Array.getElem?_modify,bn (Ne.symm h)]
def xb [Inhabited α](hk:k<w.heap.size)(h:k≠b):(sortWorld enc w b off m d os).heap[k]? =w.heap[k]? :=by
 unfold sortWorld
 rw [xc (by rw [size_putRow];exact hk),EN h];rfl
def C3 [Inhabited α]{c:Array Value}{fr:Nat×Nat}(h:w.heap[b]? =some (.cells c hg fr)):
  (sortWorld enc w b off m d os).heap[b]? =some (.cells (putCells enc off d c) hg fr):=by
 have hlt:=(vL.1 h).1
 unfold sortWorld
 rw [xc (by rw [size_putRow];exact hlt)]
 unfold putRow mapBlock
 rw [Array.getElem?_modify,bE rfl]
 show Option.map _ (w.heap[b]?)=_
 rw [h];rfl
def Bw [Inhabited α]{c:Array Value}(h:d.size<=c.size):(putCells enc 0 d c).toList.take d.size=d.toList.map enc:=by
 apply BM
 intro k
 by_cases hk:k<d.size
 ·rw [wE hk]
  have hc:k<c.size:=by omega
  simp [putCells,hc,hk]
 ·rw [zz (by simp;omega),zz (by simp;omega)]
section
variable{d:Nat}
def Fj{n:Nat}(hl:m=n)(s:Nat)(hs:bM G s=some (tV (aL l cap n)))(k:RG E ops Q rest O ((s,tV (aL l cap m))::G)):RG E ops Q rest O G:=by
 subst hl
 exact fun a w S st=>k a w S ⟨st.ext,st.sat,st.own,⟨st.facts.size,st.facts.defers,fun j t h=>by
  unfold bM at h
  by_cases V:Nat.beq s j=true
  ·rw [V]at h
   have:=nL V
   subst this
   have e:tV (aL l cap m)=t:=by simpa using h
   rw [<-e];exact st.facts.at_ s _ hs
  ·rw [wC]at V
   rw [V]at h
   exact st.facts.at_ j t h⟩⟩
end

def PI{α:Type}(cmp:α×α->Option Int)(x y:α):Bool:=
 match cmp (x,y)with
 |some c=>decide (c<0)
 |none=>false
structure Good{α:Type}(cmp:α×α->Option Int)(xs:List α):Prop where
 len:xs.length<=1099511627776
 tot: ∀x∈xs,∀y∈xs,(cmp (x,y)).isSome=true
 irr: ∀x∈xs,PI cmp x x=false
 tr: ∀x∈xs,∀y∈xs,∀z∈xs,PI cmp x y=true->PI cmp y z=true->PI cmp x z=true
 anti: ∀x∈xs,∀y∈xs,PI cmp x y=false->PI cmp y x=false->x=y
def sortI(xs:List Int):List Int:=xs.mergeSort fun x y=>decide (x<=y)
def uR(xs:List Int):(sortI xs).length=xs.length:=by unfold sortI;simp
def Cb(x:Int):List Int->List Int
 |[]=>[x]
 |y::l=>if x<=y then x::y::l else y::Cb x l
def Iz:List Int->List Int
 |[]=>[]
 |x::l=>Cb x (Iz l)
def wn(x:Int): ∀l:List Int,(Cb x l).Perm (x::l)
 |[]=> .refl _
 |y::l=>by
  unfold Cb
  split
  ·exact .refl _
  ·exact((wn x l).cons y).trans (.swap x y l)
def Ca: ∀l:List Int,(Iz l).Perm l
 |[]=> .refl _
 |x::l=>(wn x (Iz l)).trans ((Ca l).cons x)
def EM(x:Int): ∀l:List Int,l.Pairwise (· <= ·)->(Cb x l).Pairwise (· <= ·)
 |[],_=>List.pairwise_singleton _ _
 |y::l,h=>by
  have hy: ∀z∈l,y<=z:=fun z hz=>List.rel_of_pairwise_cons h hz
  unfold Cb
  split
  ·rename_i I
   refine List.Pairwise.cons (fun z hz=>?_) h
   rcases gB.1 hz with rfl|hz
   ·exact I
   ·exact Int.le_trans I (hy z hz)
  ·rename_i I
   refine List.Pairwise.cons (fun z hz=>?_) (EM x l (List.Pairwise.of_cons h))
   rcases gB.1 ((wn x l).mem_iff.1 hz)with rfl|hz
   ·omega
   ·exact hy z hz
def Hr: ∀l:List Int,(Iz l).Pairwise (· <= ·)
 |[]=> .nil
 |x::l=>EM x _ (Hr l)
def L0(l:List Int):Iz l=sortI l:=by
 refine List.Perm.eq_of_pairwise (le:=(· <= ·)) (fun a b _ _ Y J=>Int.le_antisymm Y J) (Hr l) ?_ ((Ca l).trans (List.mergeSort_perm l _).symm)
 have:=List.pairwise_mergeSort (le:=fun x y:Int=>decide (x<=y)) (fun a b c Y J=>by simp at*;omega) (fun a b=>by simp;omega) l
 exact this.imp fun h=>by simpa using h
def zS(xs:List Int):Option (List Int):=if xs.length<=68719476736 then some (Iz xs)else none
def xG(xs:List Int):zS xs=if xs.length<=68719476736 then some (sortI xs)else none:=by
 unfold zS
 rw [L0]
def DV{xs ys:List Int}(h:zS xs=some ys):xs.length<=68719476736/\ys=sortI xs:=by
 rw [xG]at h
 split at h
 ·exact⟨by assumption,by simpa using h.symm⟩
 ·cases h


def Hf{k:IntKind}{S:SH}: ∀{xs:List Int} {cs:List Value},qS (rI k) S cs xs->cs=xs.map (Value.int k)
 |[],cs,h=>by rw [show cs=[]from h];rfl
 |x::xs,cs,⟨a,b,e,Y,J⟩=>by
  rw [e,show a=[.int k x]from Y,Hf J]
  rfl
def Hq{k:IntKind}{S:SH}: ∀xs:List Int,qS (rI k) S (xs.map (Value.int k)) xs
 |[]=>rfl
 |x::xs=>⟨[.int k x],_,rfl,rfl,Hq xs⟩
def H8{ρ:Ren}(L:Lays.n189 P ρ){xs:List Int}(hlen0:xs.length<=68719476736)(hs:jA w S)(h:(fD (rI .i64) hg l cap xs).p w S):
  Calls P (ρ.f 189) #[aL l cap xs.length] w fun e w' =>e= .returned (.tuple #[])/\gU (fun k=>l=some k) w S w' S/\jA w' S/\(fD (rI .i64) hg l cap (sortI xs)).p w' S:=by
 cases l with
 |none=>
  have I:xs=[]:=vj (by obtain⟨_,h4,_⟩:=h;exact h4.1)
  subst I
  exact(Any.slices_Sort_int_none (P:=P) (ρ:=ρ) L none 0 w).mono fun _ _ ⟨Y,J⟩=>by subst J;exact⟨Y,gU.refl _ _ _,hs,by simpa [sortI] using h⟩
 |some b=>
  obtain⟨cells0,⟨cur,V,hle,hmax,hcs,hct⟩,hrc,hno0⟩:=h
  have hno:S b=none:=hno0 b rfl
  subst hct
  have Y:(rI .i64).sz=1:=rfl
  rw [Y,Nat.mul_one]at hcs hrc
  have hcells:=Hf hrc
  have hH:Holds (Value.int .i64) w b 0 xs.toArray:=by
   intro j hj
   have hj' :j<xs.length:=by simpa using hj
   have hc:cur[j]? =some (Value.int .i64 xs.toArray[j]!):=by
    have:(cur.toList.take xs.length)[j]? =some (Value.int .i64 xs.toArray[j]!):=by
     rw [hcells,yw,getElem!_pos xs.toArray j hj]
     simp [hj']
    rw [wE (by omega)]at this
    simpa using this
   refine⟨by simp [World.cell?,V,hc],?_⟩
   simp [World.frozen?,V]
  have hblk:=(vL.1 V).1
  have hcall:=calls_of_every_depth fun ht=>AnyS.slices_Sort_int_alone (P:=P) (ρ:=ρ) L ht b 0 cap xs w hH hblk (by omega)
  refine hcall.mono fun e w' ⟨he,n,os,hw⟩=>?_
  have hlen:=uR xs
  have hw2:w' =sortWorld (Value.int .i64) w b 0 n (sortI xs).toArray os:=hw
  subst hw2
  refine⟨he,⟨rfl,rfl,rfl,Nat.le_add_right _ _,?_,fun k hk hkb=>xb hk (fun e=>hkb (by rw [e])),SH.le_refl _,fun _ _ _=>rfl⟩,hs.same fun k o hk=>?_,⟨_,⟨_,C3 V,by omega,hmax,?_,rfl⟩,?_,hno0⟩⟩
  ·unfold sortWorld;rw [size_grow,size_putRow];exact Nat.le_add_right _ _
  ·have hkb:k≠b:=fun e=>by subst e;rw [hno]at hk;cases hk
   exact xb (hs.lt hk) hkb
  ·simp [putCells,Y,hcs]
  ·have e1:(sortI xs).length*(rI .i64).sz=(sortI xs).toArray.size:=by rw [Y];simp
   rw [e1,Bw (by simp;omega)]
   exact Hq (sortI xs)
section
variable{d:Nat}
def K5{ρ:Ren}(L:Lays.n189 E.P ρ){f:FuncId}(X:ρ.f 189=f)(hc:al E.P f=true){n:Nat}{xs ys:List Int}{x:Operand}(hy:zS xs=some ys)(I:aF E.N G x (tV (aL l cap n)))(hn:n=xs.length)(hd:Nat.blt d E.N.n=true)(k:ys.length=n->RG E ops Q rest (fD (rI .i64) hg l cap ys::O) ((d,vR)::G)):RG E ops Q (⟨some d,.call ⟨.value (.func f),#[x],ats⟩,ty,pos,after,none⟩::rest) (fD (rI .i64) hg l cap xs::O) G:= .of rfl fun a w S st=>by
 obtain⟨hl0,rfl⟩:=DV hy
 subst X
 subst hn
 have Y:a.eval x=aL l cap xs.length:=I S a st.facts
 have hr:(execOp a.eval ⟨some d,.call ⟨.value (.func (ρ.f 189)),#[x],ats⟩,ty,pos,after,none⟩).run E.P w= .ok (.enter (ρ.f 189) #[aL l cap xs.length]) w:=by
  have e0:a.eval (.func (ρ.f 189))= .func (.func (ρ.f 189)) #[] #[]:=rfl
  simp [execOp,resolve,e0,Y,Deferred.ofValue,invoke,fE hc]
 refine⟨fun c h=>(by cases h),?_⟩
 rw [hr]
 refine(H8 L hl0 st.sat st.own.1.1).mono fun e w' ⟨he,hext,hsat,hp⟩=>⟨_,he,?_⟩
 have hfp: ∀g∈O,∀b,g.fp b-> ¬(l=some b):=fun g T b V hl=>st.own.2.1 g T b hl V
 refine k (uR xs) _ _ S ⟨st.ext.step hext (fun c hc=>st.own.1.2 c hc),hsat,⟨⟨hp,st.own.1.2⟩,st.own.2.1,st.own.2.2.ext hext hfp⟩,?_⟩;exact(st.facts.mono hext.keep).put hd trivial
end
end Go.Proofs.YtbmmihfagmchaaaGreat

