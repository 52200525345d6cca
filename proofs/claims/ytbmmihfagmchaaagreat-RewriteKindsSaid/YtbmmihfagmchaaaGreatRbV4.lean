/- cP of this claim: W64, W63, W67, W68, W69, W70, W58, W60, W44, W55, W29. -/
import Derived.Test.YtbmmihfagmchaaaGreatRbV3
import Derived.Test.YtbmmihfagmchaaaGreatRbV1
import Derived.Test.YtbmmihfagmchaaaGreatRbV2
import Derived.Shelf.GgSortFunc.Insertion
import Derived.Shelf.Slices.In.SortNone
set_option linter.all false
namespace Go.Proofs.YtbmmihfagmchaaaGreat
open Go

variable{α:Type}{d:Array α}{n:FuncId}{r:Rp α}{t:Ty}
def tt{n d:Nat}{r s:Option Ty}{u:Ty}(h:(s5 n d r,s)=(some t,some u)):Nat.blt d n=true/\r=some t/\s=some u:=
 ⟨(cM (tY h).1).1,(cM (tY h).1).2,(tY h).2⟩
def Nv(G:jM):Operand->Option Ty
 | .tmp k=>bJ G k
 | .const (.int k n)=>some (H (rI k) n)
 | .const (.bool b)=>some (H rB b)
 |_=>none
variable{G:jM}{N:Fr}{x:Nat}
def Fz: ∀{x:Operand},Nv G x=some t->aE N G x t
 | .tmp _,h=>D h
 | .const (.int _ _),h=>by cases h;exact hI
 | .const (.bool _),h=>by cases h;exact hB
variable{ts:List Ty}{xs:List α}
def cm{N:Fr}{G:jM}: ∀{xs:List Operand} {ts:List Ty},xs.map (Nv G)=ts.map some->hG N G xs ts
 |[],[],_=>trivial
 |_::_,_::_,h=>⟨Fz (List.cons.inj h).1,cm (List.cons.inj h).2⟩

variable{E:En}{O:List OE}{Q:Exit->Act->World->Prop}{hg U:TypeId}{a:Nat}{after after2:Array Edge}{agg:Bool}{ats:Array TypeId}{b bytes c cap:Nat}{dst:Option Tmp}{e:TypeId}{β:Type}{f:α->Option β}{g:Option (Nat×Bool)}{get:α->β}{i id' :Nat}{j:IntKind}{k:Nat}{l:Option Nat}{m off:Nat}{ops:Array Oper}{p:Nat}{pos pos2:String}{q:Rp β}{st:TypeId}{tl:List α}{ty ty2:TypeId}{w:World}{xt:TypeId}{y:Code}{yt:TypeId}{z:List Value}{γ:Type}
section
variable{l:List Oper}{d:Nat}{op:Op}
def K(h:bR E O G ⟨some d,op,ty,pos,after,none⟩ t)(k:RG E ops Q l O ((d,t)::G))(hd:Nat.blt d E.N.n=true:=by exact rfl):
  RG E ops Q (⟨some d,op,ty,pos,after,none⟩::l) O G:=sI h hd k
def bA{x:α}{sz:Nat}(ti:TI E.P U sz bytes agg z)(hp:s5 E.N.n d (bJ G p)=some (bw r x))(k:RG E ops Q l O ((d,H r x)::G))(hs:(r.sz,r.agg)=(sz,agg):=by exact rfl):RG E ops Q (⟨some d,.load U (.tmp p),ty,pos,after,none⟩::l) O G:=zo (cM hp).1 (oI ti (cM hp).2 hs) k
def oE{x:α}{sz:Nat}(X:cG E.P hg i=some (off,sz))(hq:mf r off q get)(hp:s5 E.N.n d (bJ G p)=some (bw r x))(k:RG E ops Q l O ((d,bw q (get x))::G))(h0:(!(Nat.beq sz 0)&&Nat.ble (off+q.sz) r.sz)=true:=by exact rfl):
  RG E ops Q (⟨some d,.fieldAddr hg (.tmp p) i,ty,pos,after,none⟩::l) O G:=zo (cM hp).1 (nG X hq (cM hp).2 h0) k
def ca{x:α}{sz s2:Nat}{d2 p2:Nat}(X:cG E.P hg i=some (off,sz))(hq:mf r off q get)(ti:TI E.P U s2 bytes agg z)(hp:s5 E.N.n d (bJ G p)=some (bw r x))(k:RG E ops Q l O ((d2,H q (get x))::(d,bw q (get x))::G))(h0:(!(Nat.beq sz 0)&&Nat.ble (off+q.sz) r.sz)=true:=by exact rfl)(hp2:s5 E.N.n d2 (bJ ((d,bw q (get x))::G) p2)=some (bw q (get x)):=by exact rfl)(hs:(q.sz,q.agg)=(s2,agg):=by exact rfl):
  RG E ops Q (⟨some d,.fieldAddr hg (.tmp p) i,ty,pos,after,none⟩::⟨some d2,.load U (.tmp p2),ty2,pos2,after2,none⟩::l) O G:=oE X hq hp (bA ti hp2 k hs) h0
def bI{sz o:Nat}(n:Nat)(X:cG E.P hg i=some (off,sz))(hp:s5 E.N.n d (bJ G p)=some (tV (ax b o)))(k:RG E ops Q l O ((d,tV (ax b n))::G))(h0:Nat.beq sz 0=false:=by exact rfl)(he:o+off=n:=by exact rfl):RG E ops Q (⟨some d,.fieldAddr hg (.tmp p) i,ty,pos,after,none⟩::l) O G:=zo (cM hp).1 (rJ n X h0 (cM hp).2 he) k
def bS(I:s5 E.N.n d (bJ G x)=some (tT ts))(hi:ts[i]? =some t)(k:RG E ops Q l O ((d,t)::G)):RG E ops Q (⟨some d,.extract (.tmp x) i,ty,pos,after,none⟩::l) O G:=zo (cM I).1 (Bb hi (cM I).2) k
def da{n:Int}(k:RG E ops Q l O ((d,H (rI j) n)::G))(hd:Nat.blt d E.N.n=true:=by exact rfl):RG E ops Q (⟨some d,.assign (.const (.int j n)),ty,pos,after,none⟩::l) O G:=zo hd RP k
def cR{b:Bool}(k:RG E ops Q l O ((d,H rB b)::G))(hd:Nat.blt d E.N.n=true:=by exact rfl):RG E ops Q (⟨some d,.assign (.const (.bool b)),ty,pos,after,none⟩::l) O G:=zo hd RD k
def c9(hu:E.P.underlying st=some (.slice e))(I:s5 E.N.n d (bJ G x)=some (H (gy r) xs))(k:RG E ops Q l O ((d,H (rI .i64) (xs.length:Int))::G)):
  RG E ops Q (⟨some d,.call ⟨.builtin .len,#[.tmp x],#[st]⟩,ty,pos,after,none⟩::l) O G:=zo (cM I).1 (PJ hu (cM I).2) k
def dn{v:α}(I:s5 E.N.n d (bJ G x)=some (H r v))(k:RG E ops Q l O ((d,bw r v)::G)):RG E ops Q (⟨some d,.box hg (.tmp x),ty,pos,after,none⟩::l) O G:=zo (cM I).1 (zbx (cM I).2) k
def hM{b q:Bool}(h:(s5 E.N.n d (bJ G c),bJ G x)=(some (H rB b),some (ln b (H rB q))))(k:RG E ops Q l O ((d,H rB (b&&q))::G)):
  RG E ops Q (⟨some d,.pick (.tmp c) (.tmp x) (.const (.bool false)),ty,pos,after,none⟩::l) O G:=zo (tt h).1 (Px (tt h).2.1 (tt h).2.2) k
def mI{b q:Bool}(h:(s5 E.N.n d (bJ G c),bJ G x)=(some (H rB b),some (ln (!b) (H rB q))))(k:RG E ops Q l O ((d,H rB (b||q))::G)):
  RG E ops Q (⟨some d,.pick (.tmp c) (.const (.bool true)) (.tmp x),ty,pos,after,none⟩::l) O G:=zo (tt h).1 (RO (tt h).2.1 (tt h).2.2) k
section
variable{y:Nat}{m n:Int}
def zB(h:(s5 E.N.n d (bJ G x),bJ G y)=(some (H (rI j) m),some (H (rI j) n)))(k:RG E ops Q l O ((d,H rB (decide (m<n)))::G)):
  RG E ops Q (⟨some d,.binOp .lss xt (.tmp x) (.tmp y) yt,ty,pos,after,none⟩::l) O G:=zo (tt h).1 (zlt (tt h).2.1 (tt h).2.2) k
def dg(I:s5 E.N.n d (bJ G x)=some (H (rI j) m))(k:RG E ops Q l O ((d,H rB (m==n))::G)):RG E ops Q (⟨some d,.binOp .eql xt (.tmp x) (.const (.int j n)) yt,ty,pos,after,none⟩::l) O G:=zo (cM I).1 (PA (cM I).2) k
def jS(I:s5 E.N.n d (bJ G x)=some (H (rI j) m))(k:RG E ops Q l O ((d,H rB (m !=n))::G)):RG E ops Q (⟨some d,.binOp .neq xt (.tmp x) (.const (.int j n)) yt,ty,pos,after,none⟩::l) O G:=zo (cM I).1 (zni (cM I).2) k
def nm{c:Bool}(I:bJ G x=some (ln c (H (rI j) m)))(hc:c=true):bR E O G ⟨dst,.binOp .eql xt (.tmp x) (.const (.int j n)) yt,ty,pos,after,g⟩ (H rB (m==n)):=jP (dp I hc) hI
def zD{c:Bool}(I:bJ G x=some (ln c (H (rI j) m)))(hc:c=true):bR E O G ⟨dst,.binOp .neq xt (.tmp x) (.const (.int j n)) yt,ty,pos,after,g⟩ (H rB (m !=n)):=mn (dp I hc) hI
def eQ{id:Nat}{z w:Code}(I:xs.drop i=[])(h:(s5 E.N.n d (bJ G a),bJ G b)=(some (H (rI .i64) (i:Int)),some (H (rI .i64) (xs.length:Int))))(k:AT E Q .normal O ((d,H rB (decide ((i:Int)<(xs.length:Int))))::G))(hc:bJ ((d,H rB (decide ((i:Int)<(xs.length:Int))))::G) c=some (H rB (decide ((i:Int)<(xs.length:Int)))):=by exact rfl):
  LG E (Exit.inBlock id Q) (.seq (.region id' [⟨some d,.binOp .lss xt (.tmp a) (.tmp b) yt,ty,pos,after,none⟩].toArray false) (.seq (.cond (.tmp c) z (.exit id)) w)) O G:=
 kf<|aV<|zB h<|cb<|aJ<|xn (D hc) (NP I)<|il<|aL (aL (dM k))
def eP{e:α}{z w:Code}(I:xs.drop i=e::tl)(h:(s5 E.N.n d (bJ G a),bJ G b)=(some (H (rI .i64) (i:Int)),some (H (rI .i64) (xs.length:Int))))(k:CG E (Exit.then (vY E.r E.P (.seq (.region id' [⟨some d,.binOp .lss xt (.tmp a) (.tmp b) yt,ty,pos,after,none⟩].toArray false) (.seq (.cond (.tmp c) .skip z) w)) Q) Q) w O ((d,H rB (decide ((i:Int)<(xs.length:Int))))::G))(hc:bJ ((d,H rB (decide ((i:Int)<(xs.length:Int))))::G) c=some (H rB (decide ((i:Int)<(xs.length:Int)))):=by exact rfl):
  LG E Q (.seq (.region id' [⟨some d,.binOp .lss xt (.tmp a) (.tmp b) yt,ty,pos,after,none⟩].toArray false) (.seq (.cond (.tmp c) .skip z) w)) O G:=
 kf<|aV<|zB h<|cb<|aJ<|xm (D hc) (KO I)<|ko k
end
def yw{y:α}{ix:Nat}{i:Int}{sz:Nat}(hu:E.P.underlying st=some (.slice e))(ti:TI E.P e sz bytes agg z)(h:(s5 E.N.n d (bJ G x),bJ G ix)=(some (H (gy r) xs),some (H (rI j) i)))(hy:cQ xs i=some y)(k:RG E ops Q l O ((d,bw r y)::G))(hsz:r.sz=sz:=by exact rfl):
  RG E ops Q (⟨some d,.indexAddr st (.tmp x) (.tmp ix),ty,pos,after,none⟩::l) O G:=zo (tt h).1 (LA hu ti hsz (tt h).2.1 (tt h).2.2 hy) k
def iq{y:α}{ix:Nat}{i:Int}{sz:Nat}{d2 p2:Nat}(hu:E.P.underlying st=some (.slice e))(ti:TI E.P e sz bytes agg z)(h:(s5 E.N.n d (bJ G x),bJ G ix)=(some (H (gy r) xs),some (H (rI j) i)))(hy:cQ xs i=some y)(k:RG E ops Q l O ((d2,H r y)::(d,bw r y)::G))(hsz:r.sz=sz:=by exact rfl)(hp2:s5 E.N.n d2 (bJ ((d,bw r y)::G) p2)=some (bw r y):=by exact rfl)(hs:(r.sz,r.agg)=(sz,agg):=by exact rfl):
  RG E ops Q (⟨some d,.indexAddr st (.tmp x) (.tmp ix),ty,pos,after,none⟩::⟨some d2,.load e (.tmp p2),ty2,pos2,after2,none⟩::l) O G:=yw hu ti h hy (bA ti hp2 k hs) hsz
def aO{set:α->β->α}{x:α}{y:β}{sz:Nat}{v:Nat}{ty:TypeId}(ti:TI E.P U sz bytes agg z)(hset:g9 r off q set)(h:(bJ G p,bJ G v)=(some (tV (ax b off)),some (H q y)))(k:RG E ops Q l (bx r hg b (set x y)::O) G)(hsz:q.sz=sz:=by exact rfl)(hoff:Nat.ble (off+q.sz) r.sz=true:=by exact rfl):
  RG E ops Q (⟨none,.store U (.tmp p) (.tmp v),ty,pos,after,none⟩::l) (bx r hg b x::O) G:=cW ti hsz hset hoff (D (tY h).1) (D (tY h).2) k
def GZ(n:Nat)(ops:Array Oper)(d j:Nat)(G:jM):Option Ty:=((ops[j]?).bind (·.dst)).bind fun gs=>s5 n gs (s5 n d (bJ G gs))
def zC{n d j:Nat}{ops:Array Oper}{t:Ty}(h:GZ n ops d j G=some t): ∃gs,(ops[j]?).bind (·.dst)=some gs/\s5 n gs (s5 n d (bJ G gs))=some t:=by
 unfold GZ at h
 cases T:(ops[j]?).bind (·.dst)with
 |none=>rw [T]at h;cases h
 |some gs=>rw [T]at h;exact⟨gs,rfl,h⟩
def aW{j:Nat}{b:Bool}(T:GZ E.N.n ops d j G=some (H rB b))(h:b=true->bR E O G ⟨some d,op,ty,pos,after,some (j,true)⟩ t)(k:RG E ops Q l O ((d,ln b t)::G)):
  RG E ops Q (⟨some d,op,ty,pos,after,some (j,true)⟩::l) O G:=by obtain⟨gs,Y,J⟩:=zC T;exact zgt Y J h k
def bL{j:Nat}{b:Bool}(T:GZ E.N.n ops d j G=some (H rB b))(h:(!b)=true->bR E O G ⟨some d,op,ty,pos,after,some (j,false)⟩ t)(k:RG E ops Q l O ((d,ln (!b) t)::G)):
  RG E ops Q (⟨some d,op,ty,pos,after,some (j,false)⟩::l) O G:=by obtain⟨gs,Y,J⟩:=zC T;exact zgf Y J h k
section
variable{c:Bool}
def gQ{x:α}{sz:Nat}(ti:TI E.P U sz bytes agg z)(hp:bJ G p=some (ln c (bw r x)))(hs:(r.sz,r.agg)=(sz,agg))(hc:c=true):
  bR E O G ⟨dst,.load U (.tmp p),ty,pos,after,g⟩ (H r x):=ic ti (tY hs).1 (tY hs).2 (dp hp hc)
def gR{x:α}{sz:Nat}(X:cG E.P hg i=some (off,sz))(hq:mf r off q get)(hp:bJ G p=some (bw r x))(h0:(!(Nat.beq sz 0)&&Nat.ble (off+q.sz) r.sz)=true)(_:c=true):bR E O G ⟨dst,.fieldAddr hg (.tmp p) i,ty,pos,after,g⟩ (bw q (get x)):=nG X hq hp h0
def fL(I:bJ G x=some t)(_:c=true):bR E O G ⟨dst,.move (.tmp x),ty,pos,after,g⟩ t:=m0 I
def yy(I:bJ G x=some (ln c t))(hc:c=true):bR E O G ⟨dst,.move (.tmp x),ty,pos,after,g⟩ t:=cj (dp I hc)
def pu(hu:E.P.underlying st=some (.slice e))(I:bJ G x=some (ln c (H (gy r) xs)))(hc:c=true):
  bR E O G ⟨dst,.call ⟨.builtin .len,#[.tmp x],#[st]⟩,ty,pos,after,g⟩ (H (rI .i64) (xs.length:Int)):=j3 hu (dp I hc)
def yx{b:Bool}(I:bJ G x=some (ln c (H rB b)))(hc:c=true):bR E O G ⟨dst,.unOp .not xt (.tmp x),ty,pos,after,g⟩ (H rB (!b)):=jn (dp I hc)
end
def aT(h:s5 E.N.n d (bJ G x)=some t)(k:CG E Q y O ((d,t)::G)):RG E ops (Exit.then (y.wpIn (fw E.r) 0 E.P Q) Q) [⟨some d,.assign (.tmp x),ty,pos,after,none⟩] O G:=jm h (cb k)
def dG(h:AT E Q .ret O G):RG E ops (Exit.then (Code.ret.wpIn (fw E.r) 0 E.P Q) Q) [] O G:=cb (lz h)
def bF(h:s5 E.N.n d (bJ G x)=some t)(k:AT E Q .ret O ((d,t)::G)):RG E ops (Exit.then (Code.ret.wpIn (fw E.r) 0 E.P Q) Q) [⟨some d,.assign (.tmp x),ty,pos,after,none⟩] O G:=jm h (dG k)
def bm{id:Nat}{z:Code}(h:RG E l.toArray (Exit.then (y.wpIn (fw E.r) 0 E.P (Exit.then (z.wpIn (fw E.r) 0 E.P Q) Q)) (Exit.then (z.wpIn (fw E.r) 0 E.P Q) Q)) l O G):CG E Q (.seq (.seq (.region id l.toArray false) y) z) O G:=aJ (aV h)
def aY{id:Nat}(h:s5 E.N.n d (bJ G x)=some t)(k:RG E ((⟨some d,.move (.tmp x),ty,pos,after,none⟩::l).toArray) (Exit.then (y.wpIn (fw E.r) 0 E.P Q) Q) l O ((d,t)::G)):
  CG E Q (.seq (.region id (⟨some d,.move (.tmp x),ty,pos,after,none⟩::l).toArray false) y) O G:=aV (bu h k)
def eg{α β:Type _}{a:Option α}{f:α->Option β}{R:β}{fid:FuncId}{xs:List Operand}{u:α->Ty}(h:a.bind f=some R)(hc:al E.P fid=true)(hs: ∀{y},a=some y->cI E.P fid ts (u y))(I:hG E.N G xs ts)(k: ∀y,f y=some R->RG E ops Q l O ((d,u y)::G))(hd:Nat.blt d E.N.n=true:=by exact rfl):RG E ops Q (⟨some d,.call ⟨.value (.func fid),xs.toArray,ats⟩,ty,pos,after,none⟩::l) O G:=
 cy h fun y hy h=>sI (ce hc (hs hy) I) hd (k y h)
def q5{α β:Type _}{a:Option α}{f:α->Option β}{R:β}{r:Rp γ}{zs:α->List γ}{fid:FuncId}{xs:List Operand}(h:a.bind f=some R)(hc:al E.P fid=true)(hs: ∀{y},a=some y->gk E.P fid ts false r hg (zs y))(I:hG E.N G xs ts)(k: ∀y,f y=some R-> ∀b cap,RG E ops Q l (fi r hg b cap (zs y)::O) ((d,tV (aK b cap (zs y).length))::G))(hd:Nat.blt d E.N.n=true:=by exact rfl):
  RG E ops Q (⟨some d,.call ⟨.value (.func fid),xs.toArray,ats⟩,ty,pos,after,none⟩::l) O G:=cy h fun y hy h=>La hc (hs hy) I hd (k y h)
def dQ{e:α}{d2 id:Nat}(I:xs.drop i=e::tl)(hN:xs.length<=maxLen)(h:s5 E.N.n d (bJ G a)=some (H (rI .i64) (i:Int)))(k:AT E Q .normal O ((d2,H (rI .i64) ((i+1:Nat):Int))::(d,H (rI .i64) ((i+1:Nat):Int))::G))(J:s5 E.N.n d2 (bJ ((d,H (rI .i64) ((i+1:Nat):Int))::G) b)=some (H (rI .i64) ((i+1:Nat):Int)):=by exact rfl):
  AT E (Exit.inBlock id (Exit.then ((Code.region id' [⟨some d,.binOp .add xt (.tmp a) (.const (.int .i64 1)) yt,ty,pos,after,none⟩,⟨some d2,.move (.tmp b),ty2,pos2,after2,none⟩].toArray false).wpIn (fw E.r) 0 E.P Q) Q)) .normal O G:=
 bh<|aB<|aG<|zo (cM h).1 (RC (Hx I hN) (cM h).2)<|bu J<|bq k
def PL{e:α}{b2 d2 d3 id:Nat}{ty3:TypeId}{pos3:String}{after3:Array Edge}(I:xs.drop i=e::tl)(hN:xs.length<=maxLen)(h:s5 E.N.n d (bJ G a)=some (H (rI .i64) (i:Int)))(k:AT E Q .normal O ((d3,H (rI .i64) ((i+1:Nat):Int))::(d2,H (rI .i64) ((i+1:Nat):Int))::(d,H (rI .i64) (i:Int))::G))(Y:s5 E.N.n d2 (bJ ((d,H (rI .i64) (i:Int))::G) b)=some (H (rI .i64) (i:Int)):=by exact rfl)(J:s5 E.N.n d3 (bJ ((d2,H (rI .i64) ((i+1:Nat):Int))::(d,H (rI .i64) (i:Int))::G) b2)=some (H (rI .i64) ((i+1:Nat):Int)):=by exact rfl):
  AT E (Exit.inBlock id (Exit.then ((Code.region id' [⟨some d,.move (.tmp a),ty,pos,after,none⟩,⟨some d2,.binOp .add xt (.tmp b) (.const (.int .i64 1)) yt,ty2,pos2,after2,none⟩,⟨some d3,.assign (.tmp b2),ty3,pos3,after3,none⟩].toArray false).wpIn (fw E.r) 0 E.P Q) Q)) .normal O G:=
 bh<|aB<|aG<|bu h<|zo (cM Y).1 (RC (Hx I hN) (cM Y).2)<|jm J<|bq k
section
variable{e:α}{q1 q2 d2 d3 d4 id:Nat}{ty3 ty4 u:TypeId}{pos3 pos4:String}{after3 after4:Array Edge}{z w:Code}
end
end
variable{af:Nat}{P:Program}
section
variable{l:List Oper}{d:Nat}
def oF(r:Rp α)(k:RG E ops Q l O ((d,H (gy r) [])::G))(hd:Nat.blt d E.N.n=true:=by exact rfl):RG E ops Q (⟨some d,.assign (.const (.slice none 0 0)),ty,pos,after,none⟩::l) O G:=zo hd (bz By) k
def dq{β:Type _}{hf h1:Option β}{r:β}{x:Code}{b:Bool}(h:(if b=true then hf else h1)=some r)(V:bJ G c=some (H rB b))(I:hf=some r->CG E Q x O G)(hy:h1=some r->CG E Q y O G):
  RG E ops (Exit.then ((Code.cond (.tmp c) x y).wpIn (fw E.r) 0 E.P Q) Q) [] O G:=cb (o8 h V I hy)
def eX{id:Nat}{af:Act->World->Prop}(h:AT E Q .ret O G):AT E (Exit.inBlock id (Exit.then af Q)) .ret O G:=yj (au h)
def fK{n:Int}(k:AT E Q .ret O ((d,H (rI j) n)::G))(hd:Nat.blt d E.N.n=true:=by exact rfl):RG E ops (Exit.then (Code.ret.wpIn (fw E.r) 0 E.P Q) Q) [⟨some d,.assign (.const (.int j n)),ty,pos,after,none⟩] O G:=zo hd RP (dG k)
def eC{f:FuncId}{fn:Func}{c:Code}{N:Nat}(X:P.funcs[f]? =some fn)(V:(fn.body,fn.ntmps,Nat.ble ts.length fn.ntmps)=(some c,N,true))(h: ∀{w0 S0},CG ⟨P,⟨N,[]⟩,oT,w0,S0,none⟩ (bodyPost P fn (EV ⟨P,⟨N,[]⟩,oT,w0,S0,none⟩ t)) c [] (sy 0 ts)):cI P f ts t:=by
 obtain⟨Y,J⟩:=tY V
 obtain⟨J,Z⟩:=tY J
 subst J
 exact cI.of X Y rfl Z fun _ _=>h
section
def PM{G:jM}:bJ ((k,t)::G) k=some t:=by simp [bJ]
def jt{u:Ty}(h:ts[i]? =some u)(hu:bJ G x=some u)(V:([(⟨x,u,none⟩:Nd)].all (lM l ⟨dst,.move (.tmp x),ty,pos,after,g⟩ i)&&dx i ⟨dst,.move (.tmp x),ty,pos,after,g⟩&&g.isNone)=true:=by exact rfl):
  ∃(needs:List Nd) (t:Ty),ts[i]? =some t/\oG G ts needs/\(needs.all (lM l ⟨dst,.move (.tmp x),ty,pos,after,g⟩ i))=true/\dx i ⟨dst,.move (.tmp x),ty,pos,after,g⟩=true/\bO E O l.toArray (gO needs) ⟨dst,.move (.tmp x),ty,pos,after,g⟩ t:=
 pN x h hu (m0 PM) V
def jF{v:α}{sz:Nat}(j:Nat)(ti:TI E.P U sz bytes agg z)(h:ts[i]? =some (H r v))(hu:ts[j]? =some (bw r v))(hs:(r.sz,r.agg)=(sz,agg):=by exact rfl)(V:([(⟨x,bw r v,some j⟩:Nd)].all (lM l ⟨dst,.load U (.tmp x),ty,pos,after,g⟩ i)&&dx i ⟨dst,.load U (.tmp x),ty,pos,after,g⟩&&g.isNone)=true:=by exact rfl):
  ∃(needs:List Nd) (t:Ty),ts[i]? =some t/\oG G ts needs/\(needs.all (lM l ⟨dst,.load U (.tmp x),ty,pos,after,g⟩ i))=true/\dx i ⟨dst,.load U (.tmp x),ty,pos,after,g⟩=true/\bO E O l.toArray (gO needs) ⟨dst,.load U (.tmp x),ty,pos,after,g⟩ t:=
 eH x j h hu (oI ti PM hs) V
end
end

section
variable{d:Nat}
end

variable{S:SH}
def Jy{α:Type}{r r' :Rp α}(h: ∀S cs x,r.rc S cs x->r'.rc S cs x){S:SH}: ∀{xs:List α} {cs:List Value},qK r S cs xs->qK r' S cs xs
 |[],_,k=>k
 |_::_,_,⟨a,b,e,Y,J⟩=>⟨a,b,e,h _ _ _ Y,Jy h J⟩
def Nw{α:Type}{R:Nat->Rp α}(up: ∀n S cs x,(R n).rc S cs x->(R (n+1)).rc S cs x){S:SH}{cs:List Value}{x:α}{n:Nat}(h:(R n).rc S cs x): ∀k,(R (n+k)).rc S cs x
 |0=>h
 |k+1=>up _ _ _ _ (Nw up h k)
def PN{R:Nat->Rp α}(up: ∀n S cs x,(R n).rc S cs x->(R (n+1)).rc S cs x){cs:List Value}{x:α}{n:Nat}(h:(R n).rc S cs x)(hm:n<=m):(R m).rc S cs x:=by
 obtain⟨k,rfl⟩:=Nat.exists_eq_add_of_le hm
 exact Nw up h k
def D0{α:Type}{r:Rp α}{R:Nat->Rp α}(up: ∀n S cs x,(R n).rc S cs x->(R (n+1)).rc S cs x)(h: ∀S cs x,r.rc S cs x-> ∃n,(R n).rc S cs x){S:SH}: ∀{xs:List α} {cs:List Value},qK r S cs xs-> ∃n,∀m,n<=m->qK (R m) S cs xs
 |[],_,k=>⟨0,fun _ _=>k⟩
 |_::_,_,⟨a,b,e,Y,J⟩=>by
  obtain⟨n1,g1⟩:=h _ _ _ Y
  obtain⟨n2,g2⟩:=D0 up h J
  exact⟨max n1 n2,fun m hm=>⟨a,b,e,PN up g1 (by omega),g2 m (by omega)⟩⟩
structure RM{α β:Type}(af:Nat)(F:Rp α->Rp β):Prop where
 sz: ∀r r',r.sz=af->r'.sz=af->(F r).sz=(F r').sz
 mono: ∀r r',r.sz=af->r'.sz=af->(∀S cs x,r.rc S cs x->r'.rc S cs x)-> ∀S cs x,(F r).rc S cs x->(F r').rc S cs x
 cont: ∀(R:Nat->Rp α),(∀n,(R n).sz=af)->(∀n S cs x,(R n).rc S cs x->(R (n+1)).rc S cs x)-> ∀r,r.sz=af->(∀S cs x,r.rc S cs x-> ∃n,(R n).rc S cs x)-> ∀S cs x,(F r).rc S cs x-> ∃n,∀m,n<=m->(F (R m)).rc S cs x
def RM.const(p:Rp β):RM af (fun _:Rp α=>p):=⟨fun _ _ _ _=>rfl,fun _ _ _ _ _ _ _ _ h=>h,fun _ _ _ _ _ _ _ _ _ h=>⟨0,fun _ _=>h⟩⟩
def RM.sl:RM af (fun r:Rp α=>gy r):=by
 refine⟨fun _ _ _ _=>rfl,fun r r' Y J h S cs x=>?_,fun R hR up r hr h S cs x=>?_⟩
 ·rintro⟨a,cap,e,q1,q2,q3⟩
  refine⟨a,cap,e,q1,q2,q3.imp id ?_⟩
  rintro⟨b,off,c,E,fr,e1,e2,e3⟩
  rw [Y]at e3
  refine⟨b,off,c,E,fr,e1,e2,?_⟩
  rw [J]
  exact Jy h e3
 ·rintro⟨a,cap,e,q1,q2,q3⟩
  rcases q3 with q3|⟨b,off,c,E,fr,e1,e2,e3⟩
  ·exact⟨0,fun m _=>⟨a,cap,e,q1,q2,.inl q3⟩⟩
  ·rw [hr]at e3
   obtain⟨n,hn⟩:=D0 up h e3
   refine⟨n,fun m hm=>⟨a,cap,e,q1,q2,.inr ⟨b,off,c,E,fr,e1,e2,?_⟩⟩⟩
   rw [hR]
   exact hn m hm
def HD{F:Rp α->Rp β}{G:Rp α->Rp γ}(h:RM af F)(k:RM af G):RM af (fun r=>cq (F r) (G r)):=by
 refine⟨fun r r' Y J=>?_,fun r r' Y J Z S cs x=>?_,fun R hR up r hr Z S cs x=>?_⟩
 ·show(F r).sz+(G r).sz=_+_
  rw [h.sz r r' Y J,k.sz r r' Y J]
 ·rintro⟨a,b,e,q1,q2⟩
  exact⟨a,b,e,h.mono r r' Y J Z _ _ _ q1,k.mono r r' Y J Z _ _ _ q2⟩
 ·rintro⟨a,b,e,q1,q2⟩
  obtain⟨n1,g1⟩:=h.cont R hR up r hr Z _ _ _ q1
  obtain⟨n2,g2⟩:=k.cont R hR up r hr Z _ _ _ q2
  exact⟨max n1 n2,fun m hm=>⟨a,b,e,g1 m (by omega),g2 m (by omega)⟩⟩
def RM.map{F:Rp α->Rp β}(f:γ->β)(h:RM af F):RM af (fun r=>nI (F r) f):=
 ⟨fun r r' Y J=>h.sz r r' Y J,fun r r' Y J Z S cs x q=>h.mono r r' Y J Z S cs (f x) q,fun R hR up r hr Z S cs x q=>h.cont R hR up r hr Z S cs (f x) q⟩
def JD(α:Type)(af:Nat):Rp α where
 sz:=af
 agg:=true
 rc:=fun _ _ _=>False
 mono:=fun _ h=>h
 len:=fun h=>h.elim
 one:=fun h=>h.elim
 sc:=fun h=>by cases h
def LP{α:Type}(F:Rp α->Rp α)(af:Nat):Nat->Rp α
 |0=>JD α af
 |n+1=>F (LP F af n)
def xL{α:Type}{F:Rp α->Rp α}{af:Nat}(h:RM af F)(h0:(F (JD α af)).sz=af): ∀n,(LP F af n).sz=af
 |0=>rfl
 |n+1=>(h.sz _ _ (xL h h0 n) rfl).trans h0
def JA{α:Type}{F:Rp α->Rp α}{af:Nat}(h:RM af F)(h0:(F (JD α af)).sz=af): ∀n S cs x,(LP F af n).rc S cs x->(LP F af (n+1)).rc S cs x
 |0,_,_,_,q=>q.elim
 |n+1,S,cs,x,q=>h.mono _ _ (xL h h0 n) (xL h h0 (n+1)) (JA h h0 n) S cs x q
def JC{α:Type}{F:Rp α->Rp α}{af:Nat}(h:RM af F)(h0:(F (JD α af)).sz=af):Rp α where
 sz:=af
 agg:=true
 rc:=fun S cs x=> ∃n,(LP F af n).rc S cs x
 mono:=fun hle ⟨n,q⟩=>⟨n,(LP F af n).mono hle q⟩
 len:=fun⟨n,q⟩=>((LP F af n).len q).trans (xL h h0 n)
 one:=fun⟨n,q⟩=>(LP F af n).one q
 sc:=fun h=>by cases h
def JB{F:Rp α->Rp α}(h:RM af F)(h0:(F (JD α af)).sz=af)(S:SH)(cs:List Value)(x:α):(JC h h0).rc S cs x↔(F (JC h h0)).rc S cs x:=by
 constructor
 ·rintro⟨n,q⟩
  cases n with
  |zero=>exact q.elim
  |succ n=>exact h.mono _ (JC h h0) (xL h h0 n) rfl (fun _ _ _ q=>⟨n,q⟩) S cs x q
 ·intro q
  obtain⟨n,hn⟩:=h.cont (LP F af) (xL h h0) (JA h h0) (JC h h0) rfl (fun _ _ _ q=>q) S cs x q
  exact⟨n+1,hn n (iQ n)⟩
def CX{r' :Rp α}(e: ∀S cs x,r.rc S cs x↔r'.rc S cs x)(h:mf r' off q get):mf r off q get:=fun S cs x k=>h S cs x ((e S cs x).1 k)
def zS{r' :Rp α}{set:α->β->α}(e: ∀S cs x,r.rc S cs x↔r'.rc S cs x)(h:g9 r' off q set):g9 r off q set:=fun S cs x ds y k k2=>(e _ _ _).2 (h S cs x ds y ((e S cs x).1 k) k2)

def ud(n:FuncId)(b:Nat):Value:= .func (.func n) #[] #[ax b 0]
def y0(n:FuncId)(b:Nat):Ty where
 p:=fun S v=>v=ax b 0/\ ∃c E fr,S b=some (.cells c E fr)/\(c.toList.drop 0).take 1=[ud n b]
 mono:=fun h ⟨e,c,E,fr,Y,J⟩=>by
  obtain⟨o',Z,h4⟩:=h _ _ Y
  obtain⟨c',rfl,h5⟩:=wN h4 (by rw [J];rfl)
  exact⟨e,c',E,fr,Z,by rw [h5];exact J⟩
section
def JL{x:Operand}(I:aE E.N G x (tV (ax b 0))):bR E O G ⟨dst,.makeFunc (.func n) #[] #[x],ty,pos,after,g⟩ (tV (ud n b)):=
 .of_pure fun a w S _ _ X=>⟨ud n b,by
  have Y:a.eval x=ax b 0:=I S a X
  simp [execOp,Instr.makeFunc,Y,ud],rfl⟩
def hSV{x:Operand}(h:aE N G x (tV (ud n b))):aE N G x (H rV (ud n b)):=fun S a X=>p6.2 ⟨h S a X,rfl⟩
def Eg{p:Operand}(ti:TI E.P U 1 bytes false z)(hp:aE E.N G p (y0 n b)):bR E O G ⟨dst,.load U p,ty,pos,after,g⟩ (tV (ud n b)):=
  (ic (r:=rV) (x:=ud n b) ti rfl rfl (fun S a X=>by
    obtain⟨e,c,E,fr,Y,J⟩:=hp S a X
    exact⟨b,0,c,E,fr,e,Y,J,rfl⟩)).imp fun _ _ h=>(p6.1 h).1
def Eh{fo cp:Operand}{xs:List Operand}(X:aE E.N G fo (tV (ud n b)))(hcp:aE E.N G cp (y0 n b))(hc:al E.P n=true)(hs:cI E.P n (ts++[y0 n b]) t)(I:hG E.N G xs ts):
  bR E O G ⟨dst,.call ⟨.value fo,xs.toArray,ats⟩,ty,pos,after,g⟩ t:=fun a w S hS _ hF=>by
 have e:a.eval fo=ud n b:=X S a hF
 have hr:(execOp a.eval ⟨dst,.call ⟨.value fo,xs.toArray,ats⟩,ty,pos,after,g⟩).run E.P w= .ok (.enter n ((xs.map a.eval).toArray++ #[ax b 0])) w:=by
  simp [execOp,resolve,e,ud,Deferred.ofValue,invoke,fj hc]
 refine⟨fun c h=>(by cases h),?_⟩
 rw [hr]
 have e2:(xs.map a.eval).toArray++ #[ax b 0]=((xs.map a.eval)++[ax b 0]).toArray:=by simp
 rw [e2]
 have V:(y0 n b).p S (ax b 0):=by
  have:=hcp S a hF
  exact⟨rfl,this.2⟩
 have hb2:tM S [y0 n b] [ax b 0]:=⟨V,trivial⟩
 exact(hs w S _ hS ((I.tys hF).append hb2)).mono fun e w' ⟨v,S',he,Y,J,Z⟩=>⟨v,he,v,S',rfl,Y,J,Z⟩
end
variable{rest:List Oper}
section
variable{c:Code}{e:Exit}
def St.settleS{a:Act}(h:St E (bx rV hg b (ud n b)::O) G a w S)(hk:bJ G k=some (tV (ax b 0))): ∃S',St E O ((k,y0 n b)::G) a w S' :=by
 obtain⟨⟨hn,cur,Z,h4⟩,_⟩:=h.own.1
 obtain⟨h8,hle,_,_⟩:=sX h rfl Z (qM _) hn
 have hv:a.tmps.getD k undef=ax b 0:=h.facts.at_ k _ hk
 refine⟨_,h8.cons ⟨hv,cur,hg,(0,0),by simp [SH.set],?_⟩⟩
 rw [h4.1];rfl
def GM(k:Nat)(hk:bJ G k=some (tV (ax b 0)))(h:RG E ops Q rest O ((k,y0 n b)::G)):RG E ops Q rest (bx rV hg b (ud n b)::O) G:=
 fun a w _ st=>let⟨S',st'⟩:=st.settleS hk;h a w S' st'
end

def RY(v:Value):Prop:= ∃fid fst cap,v= .func fid fst cap
def DK(P:Program){α β:Type}(args:α->List Ty)(res:β->Ty)(f:α->Option β):Ty where
 p:=fun S v=>RY v/\(PD P args res f).p S v
 mono:=fun h k=>⟨k.1,(PD P args res f).mono h k.2⟩
def FG{args:α->List Ty}{res:β->Ty}{x:Operand}(h:aE N G x (kq P args res f)):aE N G x (DK P args res f):=fun S a X=>
 ⟨by obtain⟨fid,cap,e,_⟩:=h S a X;exact⟨_,_,_,e⟩,Oo h S a X⟩
def RF(P:Program){α β:Type}(args:α->List Ty)(res:β->Ty)(o:Option (α->Option β)):Ty where
 p:=fun S v=>match o with|some f=>(DK P args res f).p S v|none=>v= .nilFunc
 mono:=fun h k=>by
  cases o with
  |none=>exact k
  |some f=>exact(DK P args res f).mono h k
section
variable{κ:Type} [DecidableEq κ]{kv:κ->Value}{k:κ}{t kt et:TypeId}{x i:Operand}{dst:Option Nat}{φ:Type}{args:α->List Ty}{res:β->Ty}{F:φ->α->Option β}
def Ef{m:List (κ×φ)}(hm:E.P.underlying t=some (.map kt et))(hk:A4 E.P kt kv)(hz:ZV E.P et .nilFunc)(I:aE E.N G x (I5 (fun y=>DK E.P args res (F y)) kv m))(hi:Cm E.N G i (kv k)):
  bR E O G ⟨dst,.lookup t x i false,ty,pos,after,g⟩ (RF E.P args res ((nX m k).map F)):= .of_pure fun a w S hs ho X=>by
 obtain⟨b,es,clock,Y,Z,h4⟩:=I S a X
 obtain⟨o',h5,h6⟩:=hs b _ Z
 have h7:o' = .map es clock:=h6
 subst h7
 obtain⟨q,hq,hd,hinj⟩:=hk
 have J:a.eval i=kv k:=hi S a X
 obtain⟨_,_,_,h8⟩:=oZ hd hinj (k:=k) 0 (Ld (w:=w) h4)
 rcases h8 with⟨g1,g2⟩|⟨y,o,e,j,g1,g2,g3,g4,g5⟩
 ·refine⟨.nilFunc,by simp [execOp,Y,J,kZ hm hq (hd k) h5 hz g2],?_⟩
  rw [g1];rfl
 ·refine⟨e.val,by simp [execOp,Y,J,kZ hm hq (hd k) h5 hz g4],?_⟩
  rw [g1];exact g3.2
def hFo{o:Option φ}(h:aE N G x (RF P args res (o.map F))):aE N G x (PD P args res (fun y=>(o.bind fun f=>F f y))):=fun S a X=>by
 have:=h S a X
 cases o with
 |none=>exact LF
 |some f=>exact this.2
def JK{o:Option (α->Option β)}(D: ∃ps rs vd,E.P.underlying xt=some (.func ps rs vd))(I:aE E.N G x (RF E.P args res o)):bR E O G ⟨dst,.binOp .neq xt x (.const .nilFunc) yt,ty,pos,after,g⟩ (H rB o.isSome):=
 .of_pure fun a w S _ _ X=>by
  have Y:=I S a X
  obtain⟨ps,rs,vd,hu⟩:=D
  have hcn:a.eval (.const .nilFunc)= .nilFunc:=rfl
  cases o with
  |none=>
   have J:a.eval x= .nilFunc:=Y
   have Z:(Op.equal xt .nilFunc .nilFunc).run E.P w= .ok true w:=wD fun d=>by simp [Op.equalIn,jD hu]
   exact⟨.bool false,by simp [execOp,J,hcn,eqGuard,binOp,Z],i8.2 rfl⟩
  |some f=>
   obtain⟨⟨fid,fst,cap,J⟩,_⟩:=Y
   have Z:(Op.equal xt (.func fid fst cap) .nilFunc).run E.P w= .ok false w:=wD fun d=>by simp [Op.equalIn,jD hu]
   exact⟨.bool true,by simp [execOp,J,hcn,eqGuard,binOp,Z],i8.2 rfl⟩
def Ih{o:Option φ}(D: ∃ps rs vd,E.P.underlying xt=some (.func ps rs vd))(I:aE E.N G x (RF E.P args res (o.map F))):bR E O G ⟨dst,.binOp .neq xt x (.const .nilFunc) yt,ty,pos,after,g⟩ (H rB o.isSome):=by
 have h:=JK (O:=O) (dst:=dst) (yt:=yt) (ty:=ty) (pos:=pos) (after:=after) (g:=g) D I
 rwa [Option.isSome_map]at h
end

abbrev mo{α:Type}(x:List (List α))(i:Nat):List α:=(x[i]?).getD []
def Av{n:Nat}(hi:i<n):mf (nK rV n) i rV (fun x=>(x[i]?).getD undef):=fun S cs x h=>by
 have hlt:i<x.length:=by rw [h.1];exact hi
 have Y:=s0 h.2 (qY hlt)
 rw [show rV.sz=1 from rfl,Nat.mul_one]at Y
 show rV.rc S (List.take rV.sz (List.drop i cs)) ((x[i]?).getD undef)
 rw [show rV.sz=1 from rfl,qY hlt]
 exact Y
def Qh{S:SH}: ∀{vs cs:List Value},qK rV S cs vs->cs=vs
 |[],_,h=>h
 |v::vs,_,⟨a,b,e,Y,J⟩=>by
  rw [e,Y.1,Qh J];rfl
def Pv{α:Type}(r:Rp α)(S:SH):List Value->List α->Prop
 |[],[]=>True
 |v::vs,x::xs=>r.rc S [v] x/\Pv r S vs xs
 |_,_=>False
def E0{α:Type}{r:Rp α}{S:SH}: ∀{vs:List Value} {xs:List α},Pv r S vs xs->qK r S vs xs/\xs.length=vs.length
 |[],[],_=>⟨rfl,rfl⟩
 |v::vs,x::xs,⟨Y,J⟩=>by
  obtain⟨g1,g2⟩:=E0 J
  exact⟨⟨[v],vs,rfl,Y,g1⟩,by simp [g2]⟩
def Pt{n:Nat}{cs vs:List Value}(h:(nK rV n).rc S cs vs)(k:Pv r S vs xs):(nK r n).rc S cs xs:=by
 obtain⟨Y,J⟩:=h
 obtain⟨g1,g2⟩:=E0 k
 rw [Qh J]
 exact⟨by rw [g2,Y],g1⟩

section
variable{c:Code}
def Gw{l:List α}{e:α}(h:xs.drop i=e::l):(i:Int)<(xs.length:Int):=by
 have:=congrArg List.length h
 simp at this
 omega
def rU{mm:Bool}{n:Nat}{x ix:Operand}{y:α}{t:TypeId}{k:IntKind}{i:Int}{sz:Nat}(D:E.P.underlying t=some (.slice e))(ti:TI E.P e sz bytes agg z)(hm:jJ mm r U l cap xs∈O)(I:aE E.N G x (tV (aK l cap n)))(hi:aE E.N G ix (H (rI k) i))(hy:cQ xs i=some y)(hlt:i<(n:Int)):
  bR E O G ⟨dst,.indexAddr t x ix,ty,pos,after,g⟩ (tV (jf l (i.toNat*sz+0))):=
 .of_pure fun a w S _ ho X=>by
  have Y:a.eval x=aK l cap n:=I S a X
  have Z:a.eval ix= .int k i:=eZ.1 (hi S a X)
  obtain⟨h0,hy'⟩:=iL hy
  obtain⟨b,cur,rfl,_⟩:=pA (ho.mem _ hm).1 hy'
  refine⟨_,?_,rfl⟩
  have hc:0<=i/\i<(n:Int):=⟨h0,hlt⟩
  simp [execOp,Y,Z,aK,Instr.indexAt,asIntOf,jD D,hc,ti.sizeOf,iA,jf,ax]
end
open Go.Sort Go.Shelf

variable{os:Array Obj}
def wX(h:k<w.heap.size):(grow w os).heap[k]? =w.heap[k]? :=by
 unfold grow;exact Array.getElem?_append_left h
variable{enc:α->Value}
def EI [Inhabited α](h:k≠b):(putRow enc w b off d).heap[k]? =w.heap[k]? :=by
 unfold putRow mapBlock
 rw [Array.getElem?_modify,bo (Ne.symm h)]
def wW [Inhabited α](hk:k<w.heap.size)(h:k≠b):(sortWorld enc w b off m d os).heap[k]? =w.heap[k]? :=by
 unfold sortWorld
 rw [wX (by rw [size_putRow];exact hk),EI h];rfl
def CU [Inhabited α]{c:Array Value}{fr:Nat×Nat}(h:w.heap[b]? =some (.cells c hg fr)):
  (sortWorld enc w b off m d os).heap[b]? =some (.cells (putCells enc off d c) hg fr):=by
 have hlt:=(vx.1 h).1
 unfold sortWorld
 rw [wX (by rw [size_putRow];exact hlt)]
 unfold putRow mapBlock
 rw [Array.getElem?_modify,bD rfl]
 show Option.map _ (w.heap[b]?)=_
 rw [h];rfl
def Bq [Inhabited α]{c:Array Value}(h:d.size<=c.size):(putCells enc 0 d c).toList.take d.size=d.toList.map enc:=by
 apply BG
 intro k
 by_cases hk:k<d.size
 ·rw [wr hk]
  have hc:k<c.size:=by omega
  simp [putCells,hc,hk]
 ·rw [zw (by simp;omega),zw (by simp;omega)]
section
variable{d:Nat}
def xj{n:Nat}(hl:m=n)(s:Nat)(hs:bJ G s=some (tV (aK l cap n)))(k:RG E ops Q rest O ((s,tV (aK l cap m))::G)):RG E ops Q rest O G:=by
 subst hl
 exact fun a w S st=>k a w S ⟨st.ext,st.sat,st.own,⟨st.facts.size,st.facts.defers,fun j t h=>by
  unfold bJ at h
  by_cases V:Nat.beq s j=true
  ·rw [V]at h
   have:=nD V
   subst this
   have e:tV (aK l cap m)=t:=by simpa using h
   rw [<-e];exact st.facts.at_ s _ hs
  ·rw [wp]at V
   rw [V]at h
   exact st.facts.at_ j t h⟩⟩
end

def PF{α:Type}(cmp:α×α->Option Int)(x y:α):Bool:=
 match cmp (x,y)with
 |some c=>decide (c<0)
 |none=>false
structure Good{α:Type}(cmp:α×α->Option Int)(xs:List α):Prop where
 len:xs.length<=1099511627776
 tot: ∀x∈xs,∀y∈xs,(cmp (x,y)).isSome=true
 irr: ∀x∈xs,PF cmp x x=false
 tr: ∀x∈xs,∀y∈xs,∀z∈xs,PF cmp x y=true->PF cmp y z=true->PF cmp x z=true
 anti: ∀x∈xs,∀y∈xs,PF cmp x y=false->PF cmp y x=false->x=y
def sortI(xs:List Int):List Int:=xs.mergeSort fun x y=>decide (x<=y)
def sk(xs:List Int):(sortI xs).length=xs.length:=by unfold sortI;simp
def B5(x:Int):List Int->List Int
 |[]=>[x]
 |y::l=>if x<=y then x::y::l else y::B5 x l
def Ir:List Int->List Int
 |[]=>[]
 |x::l=>B5 x (Ir l)
def v7(x:Int): ∀l:List Int,(B5 x l).Perm (x::l)
 |[]=> .refl _
 |y::l=>by
  unfold B5
  split
  ·exact .refl _
  ·exact((v7 x l).cons y).trans (.swap x y l)
def B4: ∀l:List Int,(Ir l).Perm l
 |[]=> .refl _
 |x::l=>(v7 x (Ir l)).trans ((B4 l).cons x)
def EH(x:Int): ∀l:List Int,l.Pairwise (· <= ·)->(B5 x l).Pairwise (· <= ·)
 |[],_=>List.pairwise_singleton _ _
 |y::l,h=>by
  have hy: ∀z∈l,y<=z:=fun z hz=>List.rel_of_pairwise_cons h hz
  unfold B5
  split
  ·rename_i I
   refine List.Pairwise.cons (fun z hz=>?_) h
   rcases fT.1 hz with rfl|hz
   ·exact I
   ·exact Int.le_trans I (hy z hz)
  ·rename_i I
   refine List.Pairwise.cons (fun z hz=>?_) (EH x l (List.Pairwise.of_cons h))
   rcases fT.1 ((v7 x l).mem_iff.1 hz)with rfl|hz
   ·omega
   ·exact hy z hz
def Hn: ∀l:List Int,(Ir l).Pairwise (· <= ·)
 |[]=> .nil
 |x::l=>EH x _ (Hn l)
def Md(l:List Int):Ir l=sortI l:=by
 refine List.Perm.eq_of_pairwise (le:=(· <= ·)) (fun a b _ _ Y J=>Int.le_antisymm Y J) (Hn l) ?_ ((B4 l).trans (List.mergeSort_perm l _).symm)
 have:=List.pairwise_mergeSort (le:=fun x y:Int=>decide (x<=y)) (fun a b c Y J=>by simp at*;omega) (fun a b=>by simp;omega) l
 exact this.imp fun h=>by simpa using h
def xA(xs:List Int):Option (List Int):=if xs.length<=68719476736 then some (Ir xs)else none
def uI(xs:List Int):xA xs=if xs.length<=68719476736 then some (sortI xs)else none:=by
 unfold xA
 rw [Md]
def DN{xs ys:List Int}(h:xA xs=some ys):xs.length<=68719476736/\ys=sortI xs:=by
 rw [uI]at h
 split at h
 ·exact⟨by assumption,by simpa using h.symm⟩
 ·cases h


def G9{k:IntKind}{S:SH}: ∀{xs:List Int} {cs:List Value},qK (rI k) S cs xs->cs=xs.map (Value.int k)
 |[],cs,h=>by rw [show cs=[]from h];rfl
 |x::xs,cs,⟨a,b,e,Y,J⟩=>by
  rw [e,show a=[.int k x]from Y,G9 J]
  rfl
def Hm{k:IntKind}{S:SH}: ∀xs:List Int,qK (rI k) S (xs.map (Value.int k)) xs
 |[]=>rfl
 |x::xs=>⟨[.int k x],_,rfl,rfl,Hm xs⟩
def H2{ρ:Ren}(L:Lays.n189 P ρ){xs:List Int}(hlen0:xs.length<=68719476736)(hs:jo w S)(h:(fi (rI .i64) hg l cap xs).p w S):
  Calls P (ρ.f 189) #[aK l cap xs.length] w fun e w' =>e= .returned (.tuple #[])/\gH (fun k=>l=some k) w S w' S/\jo w' S/\(fi (rI .i64) hg l cap (sortI xs)).p w' S:=by
 cases l with
 |none=>
  have I:xs=[]:=tX (by obtain⟨_,h4,_⟩:=h;exact h4.1)
  subst I
  exact(Any.slices_Sort_int_none (P:=P) (ρ:=ρ) L none 0 w).mono fun _ _ ⟨Y,J⟩=>by subst J;exact⟨Y,gH.refl _ _ _,hs,by simpa [sortI] using h⟩
 |some b=>
  obtain⟨cells0,⟨cur,V,hle,hmax,hcs,hct⟩,hrc,hno0⟩:=h
  have hno:S b=none:=hno0 b rfl
  subst hct
  have Y:(rI .i64).sz=1:=rfl
  rw [Y,Nat.mul_one]at hcs hrc
  have hcells:=G9 hrc
  have hH:Holds (Value.int .i64) w b 0 xs.toArray:=by
   intro j hj
   have hj' :j<xs.length:=by simpa using hj
   have hc:cur[j]? =some (Value.int .i64 xs.toArray[j]!):=by
    have:(cur.toList.take xs.length)[j]? =some (Value.int .i64 xs.toArray[j]!):=by
     rw [hcells,yp,getElem!_pos xs.toArray j hj]
     simp [hj']
    rw [wr (by omega)]at this
    simpa using this
   refine⟨by simp [World.cell?,V,hc],?_⟩
   simp [World.frozen?,V]
  have hblk:=(vx.1 V).1
  have hcall:=calls_of_every_depth fun ht=>AnyS.slices_Sort_int_alone (P:=P) (ρ:=ρ) L ht b 0 cap xs w hH hblk (by omega)
  refine hcall.mono fun e w' ⟨he,n,os,hw⟩=>?_
  have hlen:=sk xs
  have hw2:w' =sortWorld (Value.int .i64) w b 0 n (sortI xs).toArray os:=hw
  subst hw2
  refine⟨he,⟨rfl,rfl,rfl,Nat.le_add_right _ _,?_,fun k hk hkb=>wW hk (fun e=>hkb (by rw [e])),SH.le_refl _,fun _ _ _=>rfl⟩,hs.same fun k o hk=>?_,⟨_,⟨_,CU V,by omega,hmax,?_,rfl⟩,?_,hno0⟩⟩
  ·unfold sortWorld;rw [size_grow,size_putRow];exact Nat.le_add_right _ _
  ·have hkb:k≠b:=fun e=>by subst e;rw [hno]at hk;cases hk
   exact wW (hs.lt hk) hkb
  ·simp [putCells,Y,hcs]
  ·have e1:(sortI xs).length*(rI .i64).sz=(sortI xs).toArray.size:=by rw [Y];simp
   rw [e1,Bq (by simp;omega)]
   exact Hm (sortI xs)
section
variable{d:Nat}
def Fb{ρ:Ren}(L:Lays.n189 E.P ρ){f:FuncId}(X:ρ.f 189=f)(hc:al E.P f=true){n:Nat}{xs ys:List Int}{x:Operand}(hy:xA xs=some ys)(I:aE E.N G x (tV (aK l cap n)))(hn:n=xs.length)(hd:Nat.blt d E.N.n=true)(k:ys.length=n->RG E ops Q rest (fi (rI .i64) hg l cap ys::O) ((d,vF)::G)):RG E ops Q (⟨some d,.call ⟨.value (.func f),#[x],ats⟩,ty,pos,after,none⟩::rest) (fi (rI .i64) hg l cap xs::O) G:= .of rfl fun a w S st=>by
 obtain⟨hl0,rfl⟩:=DN hy
 subst X
 subst hn
 have Y:a.eval x=aK l cap xs.length:=I S a st.facts
 have hr:(execOp a.eval ⟨some d,.call ⟨.value (.func (ρ.f 189)),#[x],ats⟩,ty,pos,after,none⟩).run E.P w= .ok (.enter (ρ.f 189) #[aK l cap xs.length]) w:=by
  have e0:a.eval (.func (ρ.f 189))= .func (.func (ρ.f 189)) #[] #[]:=rfl
  simp [execOp,resolve,e0,Y,Deferred.ofValue,invoke,fj hc]
 refine⟨fun c h=>(by cases h),?_⟩
 rw [hr]
 refine(H2 L hl0 st.sat st.own.1.1).mono fun e w' ⟨he,hext,hsat,hp⟩=>⟨_,he,?_⟩
 have hfp: ∀g∈O,∀b,g.fp b-> ¬(l=some b):=fun g T b V hl=>st.own.2.1 g T b hl V
 refine k (sk xs) _ _ S ⟨st.ext.step hext (fun c hc=>st.own.1.2 c hc),hsat,⟨⟨hp,st.own.1.2⟩,st.own.2.1,st.own.2.2.ext hext hfp⟩,?_⟩;exact(st.facts.mono hext.keep).put hd trivial
end
end Go.Proofs.YtbmmihfagmchaaaGreat

