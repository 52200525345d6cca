import Derived.Test.YtdohlidddcgfjaaGreatFbQ1
import Derived.Test.YtdohlidddcgfjaaGreatFbQ2
import Derived.Test.YtdohlidddcgfjaaGreatFbY15
import Derived.KernelRfl
/- bR of this claim: G1. -/
set_option linter.all false
namespace Go.Proofs.YtdohlidddcgfjaaGreat
open Go

def w3{n:Nat}(h:n<=900000):n<eI:=uA (yG _) (mq (by omega))
def gN(p:Int):Nat->List Int
 |0=>[]
 |k+1=>IntKind.u8.wrap (p.fdiv (2^(8*k)))::gN p k
def px(p:Int): ∀k,(gN p k).length=k
 |0=>rfl
 |k+1=>by simp [gN,px p k]
def xi(n:Nat): ∀k,gN (n:Int) k=zl n k
 |0=>rfl
 |k+1=>by
  unfold gN zl
  rw [xi n k,Jf _ (Int.pow_nonneg (by omega)),show(2:Int)^(8*k)=((256^k:Nat):Int) by rw [show(256:Nat)=2^8 from rfl,<-Nat.pow_mul];norm_cast,show((n:Int)/((256^k:Nat):Int))=((n/256^k:Nat):Int)from rfl]
  congr 1
def yq: ∀(k:Nat) {m n:Nat},m%256^k=n%256^k->zl m k=zl n k
 |0,_,_,_=>rfl
 |k+1,m,n,h=>by
  have Y:m/256^k%256=n/256^k%256:=by
   rw [<-Nat.mod_mul_right_div_self,<-Nat.mod_mul_right_div_self,<-Nat.pow_succ,h]
  have H:m%256^k=n%256^k:=by
   have:=congrArg (· %256^k) h
   simpa [Nat.mod_mod_of_dvd _ (Nat.pow_dvd_pow 256 (Nat.le_succ k))] using this
  unfold zl
  rw [Y,yq k H]
def Jm(p:Int): ∃n:Nat,n<18446744073709551616/\IntKind.u64.wrap p=(n:Int):=⟨(IntKind.u64.wrap p).toNat,by rw [Av];omega,by rw [Av];omega⟩
def L6(k w:Nat)(hk:k+1<=w)(hw:w<=8):IntKind.i64.wrap (IntKind.i64.wrap (8*IntKind.i64.wrap ((w:Int)-((w-(k+1):Nat):Int)))-8)=((8*k:Nat):Int):=by
 rw [show(w:Int)-((w-(k+1):Nat):Int)=((k+1:Nat):Int) by omega,p6,p6,p6]
 omega
def Ov(p:Int)(k:Nat)(hk:k<=8):p.fdiv (2^(min (Int.toNat ((8*k:Nat):Int)) IntKind.u64.bits))=p.fdiv (2^(8*k)):=by
 rw [yJ,show IntKind.u64.bits=64 from rfl,uz (by omega)]
def tA(p:Int)(w:Nat)(hw:w<=8): ∀(k f:Nat) (b:List Int),k<=w->k<f->b.length+k<=60000000000->dA p (w:Int) f b ((w-k:Nat):Int)=some (b++gN p k)
 |0,f+1,b,_,_,_=>by
  unfold dA
  rw [aZ (by simp),gN,sC]
 |k+1,f+1,b,hk,hf,W=>by
  unfold dA
  rw [bu (by rw [o9];omega),L6 k w hk hw,show SW ((8*k:Nat):Int)=some ()from bu (by omega),br,Ov p k (by omega),cy (by simp;omega),br]
  rw [show IntKind.i64.wrap (((w-(k+1):Nat):Int)+1)=((w-k:Nat):Int) by rw [p6];omega]
  rw [tA p w hw k f _ (by omega) (by omega) (by simp;omega),oB];rfl
def FX(p w:Int): ∀(f:Nat) (b:List Int) (x:Int),jf p w f b x=dA (IntKind.u64.wrap p) w f b x
 |0,_,_=>rfl
 |f+1,b,x=>by
  unfold jf dA
  simp only [FX p w f]
def FW(p w:Int): ∀(f:Nat) (b:List Int) (x:Int),je p w f b x=dA (IntKind.u64.wrap p) w f b x
 |0,_,_=>rfl
 |f+1,b,x=>by
  unfold je dA
  simp only [FW p w f]
def yL{n:Nat}(h:n<=68719476736):uD (0:Int) (n:Int) (0:Int)=some []:=by
 unfold uD
 rw [bu (by omega)];rfl
def IX(b:List Int)(w:Nat)(h:b.length+w<=60000000000):IntKind.i64.wrap ((b.length:Int)+(w:Int))=((b.length+w:Nat):Int):=by
 rw [p6];omega
def q0(b:List Int)(p:Int)(h:b.length<=50000000000):jw b p=some (b++gN p 8):=by
 unfold jw pj
 have:=tA p 8 (by omega) 8 eI b (by omega) (w3 (by omega)) (by omega)
 rw [show((8:Int))=((8:Nat):Int)from rfl,IX b 8 (by omega),yL (by omega),br,cy (by simp;omega),br,mz]
 rw [show((0:Int))=((8-8:Nat):Int)from rfl,this]
 rfl
def Bk(b:List Int)(p:Int)(h:b.length<=50000000000):mQ b p=some (b++gN (IntKind.u64.wrap p) 4):=by
 unfold mQ pm
 have:=tA (IntKind.u64.wrap p) 4 (by omega) 4 eI b (by omega) (w3 (by omega)) (by omega)
 rw [show((4:Int))=((4:Nat):Int)from rfl,IX b 4 (by omega),yL (by omega),br,cy (by simp;omega),br,mz]
 rw [show((0:Int))=((4-4:Nat):Int)from rfl,FW,this]
 rfl
def Bl(b:List Int)(p:Int)(h:b.length<=50000000000):oh b p=some (b++gN (IntKind.u64.wrap p) 2):=by
 unfold oh pn
 have:=tA (IntKind.u64.wrap p) 2 (by omega) 2 eI b (by omega) (w3 (by omega)) (by omega)
 rw [show((2:Int))=((2:Nat):Int)from rfl,IX b 2 (by omega),yL (by omega),br,cy (by simp;omega),br,mz]
 rw [show((0:Int))=((2-2:Nat):Int)from rfl,FX,this]
 rfl
def vB(v:ap):List Int:=IntKind.u8.wrap v.Kind::(if v.Kind=1 then [IntKind.u8.wrap v.N]else if v.Kind=2 then gN (IntKind.u64.wrap v.N) 8 else if v.Kind=3 then IntKind.u8.wrap (v.S.length:Int)::lI v.S else if v.Kind=4 then gN (IntKind.u64.wrap v.N) 8++gN v.U 8 else [])
def zT(ae:NL):(lI ae).length=ae.length:=by simp [lI]
def LZ(v:ap):(vB v).length<=17+v.S.length:=by
 unfold vB
 have:=zT v.S
 split
 ·simp;omega
 ·split
  ·simp [px];omega
  ·split
   ·simp [this];omega
   ·split
    ·simp [px]
    ·simp;omega
def BV(v:ap)(h:v.S.length<=100000):pV v=some (if jG v then(vB v,0)else([],120)):=by
 have hl:=zT v.S
 unfold pV vB
 rw [qQ,br]
 by_cases hr:jG v=true
 ·rw [bu hr,aZ (by simp),bu hr]
  by_cases Y:v.Kind=1
  ·rw [bu (by simp [Y]),bu Y,cy (by simp)];rfl
  by_cases H:v.Kind=2
  ·rw [aZ (by simp [Y]),bu (by simp [H]),aZ Y,bu H,q0 _ _ (by simp)];rfl
  by_cases Q:v.Kind=3
  ·rw [aZ (by simp [Y]),aZ (by simp [H]),bu (by simp [Q]),aZ Y,aZ H,bu Q,cy (by simp),br,cy (by simp [hl];omega)];rfl
  by_cases h4:v.Kind=4
  ·rw [aZ (by simp [Y]),aZ (by simp [H]),aZ (by simp [Q]),bu (by simp [h4]),aZ Y,aZ H,aZ Q,bu h4,q0 _ _ (by simp),br,q0 _ _ (by simp [px]),br,oB];rfl
  ·rw [aZ (by simp [Y]),aZ (by simp [H]),aZ (by simp [Q]),aZ (by simp [h4]),aZ Y,aZ H,aZ Q,aZ h4]
 ·rw [aZ hr,bu (by simp),aZ hr]
end Go.Proofs.YtdohlidddcgfjaaGreat


/- bR of this claim: G2. -/
set_option linter.all false
namespace Go.Proofs.YtdohlidddcgfjaaGreat
open Go

def wj(l:List Int):List Int:=l.map IntKind.u8.wrap
def fB(b:Bool):Int:=if b then 1 else 0
def Hh(l:List Int):List Int:=IntKind.u8.wrap (l.length:Int)::wj l
def nB(n:am):List Int:=IntKind.u8.wrap n.Tag::(if n.Tag=2 then [IntKind.u8.wrap n.Col]else if n.Tag=1 then vB n.Value else [])
def eB(e:aM):List Int:=gN (e.Nodes.length:Int) 2++e.Nodes.flatMap nB
def NJ(a:fj):List Int:=IntKind.u8.wrap a.Tag::eB a.Arg
def Qi(o:j3):List Int:=[IntKind.u8.wrap o.Col,fB o.Desc]
def EF(n:aa):List Int:=gN (IntKind.u64.wrap (IntKind.i64.wrap (n.Limit+1))) 4
def wd(n:aa):List Int:=
 if n.Op=1\/n.Op=9 then IntKind.u8.wrap n.Table::Hh n.Kinds
 else if n.Op=2 then fB n.Left::eB n.Cond
 else if n.Op=3 then eB n.Cond
 else if n.Op=4\/n.Op=10\/n.Op=11 then Hh n.Keys++IntKind.u8.wrap (n.Aggs.length:Int)::n.Aggs.flatMap NJ
 else if n.Op=5 then IntKind.u8.wrap (n.Items.length:Int)::n.Items.flatMap eB
 else if n.Op=8 then IntKind.u8.wrap (n.Order.length:Int)::(n.Order.flatMap Qi++EF n)
 else []
def wV(n:aa):List Int:=IntKind.u8.wrap n.Op::wd n
def LK(f:dE):List Int:=[IntKind.u8.wrap f.At,IntKind.u8.wrap f.Way]++Hh f.Cols++IntKind.u8.wrap (f.Nodes.length:Int)::f.Nodes.flatMap wV
def Rc(p:iu):List Int:=IntKind.u8.wrap (p.Frags.length:Int)::p.Frags.flatMap LK
structure WR(e:aM):Prop where
 len:e.Nodes.length<=100
 str: ∀n∈e.Nodes,n.Value.S.length<=100
structure SmD(n:aa):Prop where
 kinds:n.Kinds.length<=20
 keys:n.Keys.length<=20
 order:n.Order.length<=20
 items:n.Items.length<=20
 aggs:n.Aggs.length<=20
 cond:WR n.Cond
 item: ∀e∈n.Items,WR e
 arg: ∀a∈n.Aggs,WR a.Arg
structure SmF(f:dE):Prop where
 cols:f.Cols.length<=40
 len:f.Nodes.length<=70
 n: ∀n∈f.Nodes,SmD n
structure SmP(p:iu):Prop where
 len:p.Frags.length<=40
 f: ∀f∈p.Frags,SmF f
def VE(e:aM):Prop:= ∀n∈e.Nodes,n.Tag=1->jG n.Value=true
structure VN(n:aa):Prop where
 cond:n.Op=2\/n.Op=3->VE n.Cond
 arg:n.Op=4\/n.Op=10\/n.Op=11-> ∀a∈n.Aggs,VE a.Arg
 item:n.Op=5-> ∀e∈n.Items,VE e
def rF(l:List Int):(Hh l).length=l.length+1:=by simp [Hh,wj]
def Rs{n:am}(h:n.Value.S.length<=100):(nB n).length<=118:=by
 have:=LZ n.Value
 unfold nB
 split
 ·simp
 ·split
  ·simp;omega
  ·simp
abbrev W0(b:List Int):aL:=⟨b⟩
def wn: ∀(l b:List Int),b.length+l.length<=60000000000->eH l (W0 b)=some (W0 (b++wj l))
 |[],b,_=>by unfold eH;simp [wj]
 |x::l,b,h=>by
  simp only [jj]at h
  unfold eH
  show((jb b [IntKind.u8.wrap x]).bind _)=_
  rw [cy (by simp;omega),br]
  show eH l (W0 (b++[IntKind.u8.wrap x]))=_
  rw [wn l _ (by simp;omega),oB]
  rfl
def nl(b l:List Int)(h:b.length+l.length<=60000000000):bO (W0 b) l=some (W0 (b++wj l)):=wn l b h
def LW(b l:List Int)(h:b.length+l.length<=50000000000):iS (W0 b) l=some (W0 (b++Hh l)):=by
 unfold iS
 rw [nl b [(l.length:Int)] (by simp;omega),br,nl _ l (by simp [wj];omega),br,oB]
 rfl
def Qa(b:List Int)(n:aa)(h:b.length+n.Kinds.length<=40000000000):ee (W0 b) n=some (W0 (b++IntKind.u8.wrap n.Table::Hh n.Kinds)):=by
 unfold ee
 rw [nl b _ (by simp;omega),br,LW _ _ (by simp [wj];omega),br,oB]
 rfl
def Qb(b:List Int)(x:Bool)(h:b.length<=50000000000):gI (W0 b) x=some (W0 (b++[fB x])):=by
 unfold gI kq
 cases x
 ·rw [aZ (by simp),nl b _ (by simp;omega),br];rfl
 ·rw [bu rfl,nl b _ (by simp;omega),br];rfl
def TE{n:Nat}(h:n<=60000):IntKind.u64.wrap (IntKind.u16.wrap (n:Int))=(n:Int):=by rw [IntKind.wrap_u16,Av];omega
def MK(n:aa):gN (IntKind.u64.wrap (IntKind.u32.wrap (IntKind.i64.wrap (n.Limit+1)))) 4=EF n:=by
 unfold EF
 generalize IntKind.i64.wrap (n.Limit+1)=x
 obtain⟨m,_,hm⟩:=Jm (IntKind.u32.wrap x)
 obtain⟨k,_,hk⟩:=Jm x
 rw [hm,hk,xi,xi]
 refine yq 4 ?_
 rw [Av,IntKind.wrap_u32]at hm
 rw [Av]at hk
 show m%4294967296=k%4294967296
 omega
def C0(n:aa): ∀(l:List j3) (b:List Int),b.length+2*l.length<=30000000000->fM n l (W0 b)=some (W0 (b++(l.flatMap Qi++EF n)))
 |[],b,h=>by
  unfold fM
  show((mQ b _).bind _)=_
  rw [Bk b _ (by simp at h;omega),br,MK]
  rfl
 |o::l,b,h=>by
  simp only [jj]at h
  unfold fM
  rw [nl b _ (by simp;omega),br,Qb _ _ (by simp [wj];omega),br,C0 n l _ (by simp [wj];omega),oB,oB]
  rfl
def TB{β:Type}(f1 f9 f2 f3 f4 f10 f11 f5 f8:β)(k:Int):sq (fi (fi (fi (fi (fi (fi (fi (fi (fi ([]:List (Int×β)) 1 f1) 9 f9) 2 f2) 3 f3) 4 f4) 10 f10) 11 f11) 5 f5) 8 f8) k=
  if k=1 then some f1 else if k=9 then some f9 else if k=2 then some f2 else if k=3 then some f3 else if k=4 then some f4 else if k=10 then some f10 else if k=11 then some f11 else if k=5 then some f5 else if k=8 then some f8 else none:=by
 have e:fi (fi (fi (fi (fi (fi (fi (fi (fi ([]:List (Int×β)) 1 f1) 9 f9) 2 f2) 3 f3) 4 f4) 10 f10) 11 f11) 5 f5) 8 f8=[(1,f1),(9,f9),(2,f2),(3,f3),(4,f4),(10,f10),(11,f11),(5,f5),(8,f8)]:=rfl
 rw [e]
 simp only [sq,eq_comm (b:=k)]
def map_some{α β:Type}{x:Option α}{y:α}(h:x=some y)(f:α->β):x.map f=some (f y):=by rw [h];rfl
end Go.Proofs.YtdohlidddcgfjaaGreat


/- bR of this claim: G3. -/
set_option linter.all false
namespace Go.Proofs.YtdohlidddcgfjaaGreat
open Go

def M3(t:Tr): ∀ae,t.wf-> ∀n∈t.flat ae,BX n=true:=by
 induction t with
 |lf n=>
  intro ae h m hm
  rw [Cp.1 hm,EY];exact h.2.1
 |un n a ih=>
  intro ae h m hm
  rcases xo.1 hm with hm|hm
  ·exact ih ae h.2 m hm
  ·rw [Cp.1 hm,EY];exact h.1.2.1
 |bi n a b iha ihb=>
  intro ae h m hm
  rcases xo.1 hm with hm|hm
  ·rcases xo.1 hm with hm|hm
   ·exact iha ae h.2.1 m hm
   ·exact ihb _ h.2.2 m hm
  ·rw [Cp.1 hm,EY];exact h.1.2.1
def KL{ns:List am}(h:mJ ns=true): ∀n∈ns,BX n=true:=by
 unfold mJ at h
 obtain⟨t,D⟩:=Option.isSome_iff_exists.1 h
 obtain⟨Y,H,_⟩:=mD D
 rw [H]
 exact M3 t 0 Y
def Mp{e:aM}(h:mJ e.Nodes=true):VE e:=fun n hn Y=>by
 have:=KL h n hn
 unfold BX km at this
 rw [bu (by simp [Y]),oO]at this
 simp [uV]at this
 grind
def Gk{e:aM}{ks:List Int}(h:(eX e ks).2=0):mJ e.Nodes=true:=by
 unfold eX at h
 split at h
 ·assumption
 ·cases h
def u4{e:aM}{ks:List Int}(h:(eX e ks).2=0):VE e:=Mp (Gk h)
def GN{e:aM}(h:e.Nodes.length=0):VE e:=fun n hn=>by
 rw [sd h]at hn;cases hn
def FC{e:aM}{ks:List Int}(hl:e.Nodes.length<=5000){b:Bool}(h:i0 e ks=some b)(W:b=true):VE e:=by
 rw [AR e ks hl]at h
 cases h
 unfold Hy at W
 simp only [iO,wC]at W
 exact u4 W.1
def Ju: ∀(items:List aM) (ob:ai) {r:Bool×ai},(∀e∈items,e.Nodes.length<=5000)->dH items ob=some r->r.1=true-> ∀e∈items,VE e
 |[],_,_,_,_,_=>fun e he=>by cases he
 |e::tl,ob,r,hl,h,hr=>by
  unfold dH at h
  rw [lG e _ (by have:=hl e (nV ..);omega),br]at h
  by_cases hk:(eX e ob.a_).2=0
  ·rw [aZ (by simp [hk])]at h
   obtain⟨l4,_,h⟩:=bs h
   intro x V
   rcases jy.1 V with rfl|V
   ·exact u4 hk
   ·exact Ju tl _ (fun y hy=>hl y (o8 _ hy)) h hr x V
  ·rw [bu (by simpa using hk)]at h
   cases h
   cases hr
def SQ{g:fj}{a:List Int}(h:(zm g a).2=true):VE g.Arg:=by
 unfold zm at h
 split at h
 ·exact GN (by simpa using h)
 ·split at h
  ·simp only [iO,wC]at h;exact u4 h.1.1.1
  ·split at h
   ·simp only [iO,wC]at h;exact u4 h.1.1
   ·simp only [iO,wC]at h;exact u4 h.1.1
def Bu{l:ai}(X: ∀g∈l.n.Aggs,g.Arg.Nodes.length<=5000)(hgl:l.n.Aggs.length<=5000): ∀(ks R:List Int) {r:Bool×ai},R.length+ks.length<=5000->cT l ks {l with result:=R}=some r->r.1=true-> ∀g∈l.n.Aggs,VE g.Arg
 |[],R,r,hR,h,hr=>by
  unfold cT at h
  rw [Is l.n.Aggs _ R X (by simp at hR;omega)]at h
  cases h
  simp only [iO]at hr
  exact fun g hg' =>SQ (me.1 hr.2 g hg')
 |k::tl,R,r,hR,h,hr=>by
  simp only [jj]at hR
  unfold cT at h
  split at h
  ·cases h;cases hr
  ·obtain⟨e2,_,h⟩:=bs h
   obtain⟨l9,h9,h⟩:=bs h
   have h9' :jb R [e2]=some l9:=h9
   rw [cy (by simp;omega)]at h9'
   cases h9'
   exact Bu X hgl tl (R++[e2]) (by simp;omega) h hr
def yf{nx:Nat->Bool->ai->Option (Bool×ai)}{i:Nat}{e:fj}{ok:Bool}{ob:ai}{e3:Int}{x:Bool}{r:Bool×ai}(h:f7 nx i e ok ob e3 x=some r): ∃ok' ob',nx (i+1) ok' ob' =some r/\(ok' =true->ok=true/\e.Arg.Nodes.length=0):=by
 unfold f7 at h
 split at h
 ·exact⟨_,_,h,fun h=>by simp at h;exact⟨h.1.1,by rw [h.1.2];rfl⟩⟩
 ·exact⟨_,_,h,fun h=>by cases h⟩
def yg{l:ai}{nx:Nat->Bool->ai->Option (Bool×ai)}{i:Nat}{e:fj}{ok:Bool}{ob:ai}{e3:Int}{x:Bool}{r:Bool×ai}(h:ek l nx i e ok ob e3 x=some r): ∃ok' ob',nx (i+1) ok' ob' =some r/\(ok' =true->ok=true/\e.Arg.Nodes.length=0):=by
 unfold ek at h
 split at h
 ·exact⟨_,_,h,fun h=>by simp at h;exact⟨h.1.1,by rw [h.1.2];rfl⟩⟩
 ·split at h
  ·obtain⟨e4,_,h⟩:=bs h
   obtain⟨st,_,h⟩:=bs h
   exact⟨_,_,h,fun h=>by simp at h;exact⟨h.1.1,by rw [h.1.2];rfl⟩⟩
  ·split at h
   ·exact yf h
   ·exact yf h
def yd{l:ai}: ∀(gs:List fj) (i:Nat) (ok:Bool) (ob:ai) {r:Bool×ai},bN l gs i ok ob=some r->r.1=true->ok=true/\ ∀g∈gs,g.Arg.Nodes.length=0
 |[],i,ok,ob,r,h,hr=>by
  unfold bN at h
  cases h
  exact⟨hr,fun g X=>by cases X⟩
 |g::gs,i,ok,ob,r,h,hr=>by
  unfold bN at h
  obtain⟨e3,_,h⟩:=bs h
  have: ∃ok' ob',bN l gs (i+1) ok' ob' =some r/\(ok' =true->ok=true/\g.Arg.Nodes.length=0):=by
   split at h
   ·exact yg h
   ·exact yg h
  obtain⟨ok',ob',Y,H⟩:=this
  obtain⟨Q,h4⟩:=yd gs _ _ _ Y hr
  obtain⟨h5,h6⟩:=H Q
  refine⟨h5,fun x V=>?_⟩
  rcases jy.1 V with rfl|V
  ·exact h6
  ·exact h4 x V
def ye{l:ai}{R:List Int}: ∀(ks:List Int) (i:Nat) (ok:Bool) {r:Bool×ai},du l R ks i ok=some r->r.1=true-> ∀g∈l.n.Aggs,g.Arg.Nodes.length=0
 |[],i,ok,r,h,hr=>by
  unfold du at h
  exact(yd _ _ _ _ h hr).2
 |k::ks,i,ok,r,h,hr=>by
  unfold du at h
  obtain⟨t,_,h⟩:=bs h
  exact ye ks _ _ h hr
def SO{n:aa}(hn:iN n){l:ai}(hl:l.n=n){r:Bool×ai}(h:nF n.Op l ()=some r)(hr:r.1=true):VN n:=by
 subst hl
 refine⟨fun ho=>?_,fun ho=>?_,fun ho=>?_⟩
 ·rcases ho with ho|ho
  ·rw [ho]at h
   have h:fV l=some r:=h
   unfold fV at h
   obtain⟨c,_,h⟩:=bs h
   obtain⟨b,Y,h⟩:=bs h
   cases h
   exact FC hn.cond Y hr
  ·rw [ho]at h
   have h:ew l=some r:=h
   unfold ew at h
   obtain⟨b,Y,h⟩:=bs h
   cases h
   exact FC hn.cond Y hr
 ·rcases ho with ho|ho|ho
  ·rw [ho]at h
   have h:dF l=some r:=h
   exact Bu hn.args hn.aggs l.n.Keys [] (by have:=hn.keys;simpa using this) h hr
  ·rw [ho]at h
   have h:ed l=some r:=h
   unfold ed at h
   obtain⟨q,Y,h⟩:=bs h
   by_cases hq:q.1=true
   ·exact Bu hn.args hn.aggs l.n.Keys [] (by have:=hn.keys;simpa using this) Y hq
   ·rw [bu (by simpa using hq)]at h
    cases h;cases hr
  ·rw [ho]at h
   have h:dG l=some r:=h
   unfold dG at h
   obtain⟨e,_,h⟩:=bs h
   split at h
   ·cases h;cases hr
   ·obtain⟨c,_,h⟩:=bs h
    exact fun g X=>GN (ye _ _ _ h hr g X)
 ·rw [ho]at h
  have h:gC l=some r:=h
  exact Ju l.n.Items _ hn.exprs h hr
def tp{l:ai}{i:Int}{ask:ai->Unit->Option (Bool×ai)}{e:aa}{r:Int}: ∀(tl:List Int) (i5:Nat) (a b:List Int) {q:Bool×ai},aU l i ask e r tl i5 a b=some q->q.1=true-> ∃l0 r2,l0.n=e/\ask l0 ()=some r2/\r2.1=true
 |[],i5,a,b,q,h,hq=>by
  unfold aU at h
  split at h
  ·cases h;cases hq
  ·obtain⟨r2,H,h⟩:=bs h
   by_cases hr:r2.1=true
   ·exact⟨_,r2,rfl,H,hr⟩
   ·rw [bu (by simp [hr])]at h
    cases h;cases hq
 |p::tl,i5,a,b,q,h,hq=>by
  unfold aU at h
  obtain⟨e2,_,h⟩:=bs h
  obtain⟨t1,_,h⟩:=bs h
  split at h
  ·cases h;cases hq
  ·split at h
   ·exact tp tl _ _ _ h hq
   ·exact tp tl _ _ _ h hq
def Kt{l:ai}{i:Int}{ask:ai->Unit->Option (Bool×ai)}{q:Bool×ai}(h:de l i ask=some q)(hq:q.1=true){e:aa}(he:ga l.nodes i=some e): ∃l0 r2,l0.n=e/\ask l0 ()=some r2/\r2.1=true:=by
 unfold de at h
 rw [he,br]at h
 obtain⟨r,_,h⟩:=bs h
 obtain⟨t,_,h⟩:=bs h
 split at h
 ·cases h;cases hq
 ·obtain⟨y,_,h⟩:=bs h
  split at h
  ·cases h;cases hq
  ·obtain⟨y1,_,h⟩:=bs h
   exact tp _ _ _ _ h hq
def JD{ns:List aa}(hs:qv ns): ∀(tl:List aa) (i:Nat) (l:ai),ns.drop i=tl->PT ns l i-> ∀{out:List (List Int)} {w:Int},fh ns ((lT).getD []) tl i (-1) l=some (out,w,0)-> ∀n∈tl,VN n
 |[],_,_,_,_,_,_,_=>fun n hn=>by cases hn
 |e::tl,i,l,hd,hS,out,w,h=>by
  obtain⟨hidx,hi,hd'⟩:=nL hd
  have hidx' :=hidx
  rw [eZ]at hidx
  obtain⟨ok,l',g1,g2,g3⟩:=Da hS hs hidx tl
  unfold fh at h
  have g1' :de l (i:Int) ((sq ((lT).getD []) e.Op).getD (fun _ _=>none))=some (ok,l'):=g1
  rw [g1',br]at h
  cases ok with
  |false=>
   rw [bu (by rfl)]at h
   unfold jv at h
   rw [aZ (by simp;omega),oX l' (by omega)]at h
   cases h
  |true=>
   rw [aZ (by simp)]at h
   have hse:=hs.n e (rm hidx)
   obtain⟨l0,r2,k1,k2,k3⟩:=Kt g1 rfl (by rw [hS.k.nodes];exact hidx')
   intro n hn
   rcases jy.1 hn with rfl|hn
   ·exact SO hse k1 k2 k3
   ·exact JD hs tl (i+1) l' hd' (g2 rfl).1 h n hn
def NR{ns:List aa}(hs:qv ns){out:List (List Int)}{w:Int}(h:kF ns=some (out,w,0)): ∀n∈ns,VN n:=by
 unfold kF at h
 split at h
 ·cases h
 ·exact JD hs ns 0 ⟨ns,[],[],⟨0,0,0,0,[],false,⟨[]⟩,[],[],[],[],0⟩,[],[],[]⟩ rfl ⟨⟨rfl,rfl,fun p hp=>(by cases hp),jW _,fun k hk=>(by cases hk),fun j hj=>by omega⟩,.nil,fun k hk=>by cases hk⟩ h
end Go.Proofs.YtdohlidddcgfjaaGreat


/- bR of this claim: G4. -/
set_option linter.all false
namespace Go.Proofs.YtdohlidddcgfjaaGreat
open Go

end Go.Proofs.YtdohlidddcgfjaaGreat


/- bR of this claim: G5. -/
set_option linter.all false
namespace Go.Proofs.YtdohlidddcgfjaaGreat
open Go

structure SmR(l:List (List ap)):Prop where
 len:l.length<=10
 r: ∀r∈l,r.length<=20/\ ∀v∈r,v.S.length<=100
def SG(c:Int):Bool:=decide (c<0)||decide (16<=c)
def E0{p q:Bool}{x:Option Bool}(h:x=some q):(if p=true then(x.bind fun r=>some (!r))else some false)=some (p&& !q):=by
 subst h
 cases p<;>rfl
end Go.Proofs.YtdohlidddcgfjaaGreat


/- bR of this claim: G6. -/
set_option linter.all false
namespace Go.Proofs.YtdohlidddcgfjaaGreat
open Go

structure SmM(m:oY):Prop where
 p:SmP m.Plan
 r:SmR m.Packet.Batch.Rows
def Od:u0=some true:=by kernel_rfl
def zk(b:List Int):ot b b=some true:=by unfold ot;simp
end Go.Proofs.YtdohlidddcgfjaaGreat

