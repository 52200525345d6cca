import Derived.Test.YtdohlidddcgfjaaGreatFeQ1
import Derived.Test.YtdohlidddcgfjaaGreatFeQ2
import Derived.Test.YtdohlidddcgfjaaGreatFeY15
import Derived.KernelRfl
import Derived.Test.YtdohlidddcgfjaaGreatFeA0
/- bO of this claim: G1. -/
set_option linter.all false
namespace Go.Proofs.YtdohlidddcgfjaaGreat
open Go

def yq{n:Nat}(h:n<=900000):n<eQ:=vK (z8 _) (m8 (by omega))
def ev(p:Int):Nat->List Int
 |0=>[]
 |k+1=>IntKind.u8.wrap (p.fdiv (2^(8*k)))::ev p k
def gN(p:Int): ∀k,(ev p k).length=k
 |0=>rfl
 |k+1=>by simp [ev,gN p k]
def yI(n:Nat): ∀k,ev (n:Int) k=AM n k
 |0=>rfl
 |k+1=>by
  unfold ev AM
  rw [yI n k,EF _ (Int.pow_nonneg (by omega)),show(2:Int)^(8*k)=((256^k:Nat):Int) by rw [show(256:Nat)=2^8 from rfl,<-Nat.pow_mul];norm_cast,show((n:Int)/((256^k:Nat):Int))=((n/256^k:Nat):Int)from rfl]
  congr 1
def zO: ∀(k:Nat) {m n:Nat},m%256^k=n%256^k->AM m k=AM n k
 |0,_,_,_=>rfl
 |k+1,m,n,h=>by
  have Y:m/256^k%256=n/256^k%256:=by
   rw [<-Nat.mod_mul_right_div_self,<-Nat.mod_mul_right_div_self,<-Nat.pow_succ,h]
  have H:m%256^k=n%256^k:=by
   have:=congrArg (· %256^k) h
   simpa [Nat.mod_mod_of_dvd _ (Nat.pow_dvd_pow 256 (Nat.le_succ k))] using this
  unfold AM
  rw [Y,zO k H]
def LH(p:Int): ∃n:Nat,n<18446744073709551616/\IntKind.u64.wrap p=(n:Int):=⟨(IntKind.u64.wrap p).toNat,by rw [Bs];omega,by rw [Bs];omega⟩
def OQ(k w:Nat)(hk:k+1<=w)(hw:w<=8):IntKind.i64.wrap (IntKind.i64.wrap (8*IntKind.i64.wrap ((w:Int)-((w-(k+1):Nat):Int)))-8)=((8*k:Nat):Int):=by
 rw [show(w:Int)-((w-(k+1):Nat):Int)=((k+1:Nat):Int) by omega,qd,qd,qd]
 omega
def Ry(p:Int)(k:Nat)(hk:k<=8):p.fdiv (2^(min (Int.toNat ((8*k:Nat):Int)) IntKind.u64.bits))=p.fdiv (2^(8*k)):=by
 rw [Ad,show IntKind.u64.bits=64 from rfl,vJ (by omega)]
def uL(p:Int)(w:Nat)(hw:w<=8): ∀(k f:Nat) (b:List Int),k<=w->k<f->b.length+k<=60000000000->dZ p (w:Int) f b ((w-k:Nat):Int)=some (b++ev p k)
 |0,f+1,b,_,_,_=>by
  unfold dZ
  rw [aV (by simp),ev,tv]
 |k+1,f+1,b,hk,hf,W=>by
  unfold dZ
  rw [bo (by rw [mg];omega),OQ k w hk hw,show V4 ((8*k:Nat):Int)=some ()from bo (by omega),bg,Ry p k (by omega),cE (by simp;omega),bg]
  rw [show IntKind.i64.wrap (((w-(k+1):Nat):Int)+1)=((w-k:Nat):Int) by rw [qd];omega]
  rw [uL p w hw k f _ (by omega) (by omega) (by simp;omega),oB];rfl
def HY(p w:Int): ∀(f:Nat) (b:List Int) (x:Int),jO p w f b x=dZ (IntKind.u64.wrap p) w f b x
 |0,_,_=>rfl
 |f+1,b,x=>by
  unfold jO dZ
  simp only [HY p w f]
def HX(p w:Int): ∀(f:Nat) (b:List Int) (x:Int),jN p w f b x=dZ (IntKind.u64.wrap p) w f b x
 |0,_,_=>rfl
 |f+1,b,x=>by
  unfold jN dZ
  simp only [HX p w f]
def Af{n:Nat}(h:n<=68719476736):vO (0:Int) (n:Int) (0:Int)=some []:=by
 unfold vO
 rw [bo (by omega)];rfl
def Le(b:List Int)(w:Nat)(h:b.length+w<=60000000000):IntKind.i64.wrap ((b.length:Int)+(w:Int))=((b.length+w:Nat):Int):=by
 rw [qd];omega
def lT(b:List Int)(p:Int)(h:b.length<=50000000000):jr b p=some (b++ev p 8):=by
 unfold jr qo
 have:=uL p 8 (by omega) 8 eQ b (by omega) (yq (by omega)) (by omega)
 rw [show((8:Int))=((8:Nat):Int)from rfl,Le b 8 (by omega),Af (by omega),bg,cE (by simp;omega),bg,mo]
 rw [show((0:Int))=((8-8:Nat):Int)from rfl,this]
 rfl
def wj(b:List Int)(p:Int)(h:b.length<=50000000000):mj b p=some (b++ev (IntKind.u64.wrap p) 4):=by
 unfold mj qp
 have:=uL (IntKind.u64.wrap p) 4 (by omega) 4 eQ b (by omega) (yq (by omega)) (by omega)
 rw [show((4:Int))=((4:Nat):Int)from rfl,Le b 4 (by omega),Af (by omega),bg,cE (by simp;omega),bg,mo]
 rw [show((0:Int))=((4-4:Nat):Int)from rfl,HX,this]
 rfl
def wk(b:List Int)(p:Int)(h:b.length<=50000000000):pi b p=some (b++ev (IntKind.u64.wrap p) 2):=by
 unfold pi qq
 have:=uL (IntKind.u64.wrap p) 2 (by omega) 2 eQ b (by omega) (yq (by omega)) (by omega)
 rw [show((2:Int))=((2:Nat):Int)from rfl,Le b 2 (by omega),Af (by omega),bg,cE (by simp;omega),bg,mo]
 rw [show((0:Int))=((2-2:Nat):Int)from rfl,HY,this]
 rfl
def vB(v:am):List Int:=IntKind.u8.wrap v.Kind::(if v.Kind=1 then [IntKind.u8.wrap v.N]else if v.Kind=2 then ev (IntKind.u64.wrap v.N) 8 else if v.Kind=3 then IntKind.u8.wrap (v.S.length:Int)::lI v.S else if v.Kind=4 then ev (IntKind.u64.wrap v.N) 8++ev v.U 8 else [])
def Bn(h3:QQ):(lI h3).length=h3.length:=by simp [lI]
def FV(v:am):(vB v).length<=17+v.S.length:=by
 unfold vB
 have:=Bn v.S
 split
 ·simp;omega
 ·split
  ·simp [gN];omega
  ·split
   ·simp [this];omega
   ·split
    ·simp [gN]
    ·simp;omega
def wI(v:am)(h:v.S.length<=100000):q5 v=some (if gr v then(vB v,0)else([],120)):=by
 have hl:=Bn v.S
 unfold q5 vB
 rw [pD,bg]
 by_cases hr:gr v=true
 ·rw [bo hr,aV (by simp),bo hr]
  by_cases Y:v.Kind=1
  ·rw [bo (by simp [Y]),bo Y,cE (by simp)];rfl
  by_cases H:v.Kind=2
  ·rw [aV (by simp [Y]),bo (by simp [H]),aV Y,bo H,lT _ _ (by simp)];rfl
  by_cases s:v.Kind=3
  ·rw [aV (by simp [Y]),aV (by simp [H]),bo (by simp [s]),aV Y,aV H,bo s,cE (by simp),bg,cE (by simp [hl];omega)];rfl
  by_cases h4:v.Kind=4
  ·rw [aV (by simp [Y]),aV (by simp [H]),aV (by simp [s]),bo (by simp [h4]),aV Y,aV H,aV s,bo h4,lT _ _ (by simp),bg,lT _ _ (by simp [gN]),bg,oB];rfl
  ·rw [aV (by simp [Y]),aV (by simp [H]),aV (by simp [s]),aV (by simp [h4]),aV Y,aV H,aV s,aV h4]
 ·rw [aV hr,bo (by simp),aV hr]
end Go.Proofs.YtdohlidddcgfjaaGreat


/- bO of this claim: G2. -/
set_option linter.all false
namespace Go.Proofs.YtdohlidddcgfjaaGreat
open Go

def tE(l:List Int):List Int:=l.map IntKind.u8.wrap
def fB(b:Bool):Int:=if b then 1 else 0
def Ju(l:List Int):List Int:=IntKind.u8.wrap (l.length:Int)::tE l
def nB(n:ap):List Int:=IntKind.u8.wrap n.Tag::(if n.Tag=2 then [IntKind.u8.wrap n.Col]else if n.Tag=1 then vB n.Value else [])
def eB(e:aR):List Int:=ev (e.Nodes.length:Int) 2++e.Nodes.flatMap nB
def QP(a:fI):List Int:=IntKind.u8.wrap a.Tag::eB a.Arg
def Tm(o:kF):List Int:=[IntKind.u8.wrap o.Col,fB o.Desc]
def Gt(n:aa):List Int:=ev (IntKind.u64.wrap (IntKind.i64.wrap (n.Limit+1))) 4
def xu(n:aa):List Int:=
 if n.Op=1\/n.Op=9 then IntKind.u8.wrap n.Table::Ju n.Kinds
 else if n.Op=2 then fB n.Left::eB n.Cond
 else if n.Op=3 then eB n.Cond
 else if n.Op=4\/n.Op=10\/n.Op=11 then Ju n.Keys++IntKind.u8.wrap (n.Aggs.length:Int)::n.Aggs.flatMap QP
 else if n.Op=5 then IntKind.u8.wrap (n.Items.length:Int)::n.Items.flatMap eB
 else if n.Op=8 then IntKind.u8.wrap (n.Order.length:Int)::(n.Order.flatMap Tm++Gt n)
 else []
def yl(n:aa):List Int:=IntKind.u8.wrap n.Op::xu n
def Ov(f:dC):List Int:=[IntKind.u8.wrap f.At,IntKind.u8.wrap f.Way]++Ju f.Cols++IntKind.u8.wrap (f.Nodes.length:Int)::f.Nodes.flatMap yl
def Nv(p:da):List Int:=IntKind.u8.wrap (p.Frags.length:Int)::p.Frags.flatMap Ov
structure SmE(e:aR):Prop where
 len:e.Nodes.length<=100
 str: ∀n∈e.Nodes,n.Value.S.length<=100
structure SmD(n:aa):Prop where
 kinds:n.Kinds.length<=20
 keys:n.Keys.length<=20
 order:n.Order.length<=20
 items:n.Items.length<=20
 aggs:n.Aggs.length<=20
 cond:SmE n.Cond
 item: ∀e∈n.Items,SmE e
 arg: ∀a∈n.Aggs,SmE a.Arg
structure SmF(f:dC):Prop where
 cols:f.Cols.length<=40
 len:f.Nodes.length<=70
 n: ∀n∈f.Nodes,SmD n
structure SmP(p:da):Prop where
 len:p.Frags.length<=40
 f: ∀f∈p.Frags,SmF f
def VE(e:aR):Prop:= ∀n∈e.Nodes,n.Tag=1->gr n.Value=true
structure VN(n:aa):Prop where
 cond:n.Op=2\/n.Op=3->VE n.Cond
 arg:n.Op=4\/n.Op=10\/n.Op=11-> ∀a∈n.Aggs,VE a.Arg
 item:n.Op=5-> ∀e∈n.Items,VE e
def Mj{α β:Type}{f:α->List β}{k:Nat}: ∀(l:List α),(∀x∈l,(f x).length<=k)->(l.flatMap f).length<=k*l.length
 |[],_=>by simp
 |x::l,h=>by
  have Y:=h x (nQ ..)
  have H:=Mj l fun y hy=>h y (o4 _ hy)
  rw [DV,kJ,iR,Nat.mul_succ]
  omega
def s4(l:List Int):(Ju l).length=l.length+1:=by simp [Ju,tE]
def UH{n:ap}(h:n.Value.S.length<=100):(nB n).length<=118:=by
 have:=FV n.Value
 unfold nB
 split
 ·simp
 ·split
  ·simp;omega
  ·simp
abbrev W0(b:List Int):aP:=⟨b⟩
def xD: ∀(l b:List Int),b.length+l.length<=60000000000->ft l (W0 b)=some (W0 (b++tE l))
 |[],b,_=>by unfold ft;simp [tE]
 |x::l,b,h=>by
  simp only [iR]at h
  unfold ft
  show((jh b [IntKind.u8.wrap x]).bind _)=_
  rw [cE (by simp;omega),bg]
  show ft l (W0 (b++[IntKind.u8.wrap x]))=_
  rw [xD l _ (by simp;omega),oB]
  rfl
def lK(b l:List Int)(h:b.length+l.length<=60000000000):bY (W0 b) l=some (W0 (b++tE l)):=xD l b h
def ON(b l:List Int)(h:b.length+l.length<=50000000000):jB (W0 b) l=some (W0 (b++Ju l)):=by
 unfold jB
 rw [lK b [(l.length:Int)] (by simp;omega),bg,lK _ l (by simp [tE];omega),bg,oB]
 rfl
def Tf(b:List Int)(n:aa)(h:b.length+n.Kinds.length<=40000000000):eM (W0 b) n=some (W0 (b++IntKind.u8.wrap n.Table::Ju n.Kinds)):=by
 unfold eM
 rw [lK b _ (by simp;omega),bg,ON _ _ (by simp [tE];omega),bg,oB]
 rfl
def LB(b:List Int)(x:Bool)(h:b.length<=50000000000):gj (W0 b) x=some (W0 (b++[fB x])):=by
 unfold gj kZ
 cases x
 ·rw [aV (by simp),lK b _ (by simp;omega),bg];rfl
 ·rw [bo rfl,lK b _ (by simp;omega),bg];rfl
def Tn{n:Nat}(h:n<=60000):IntKind.u64.wrap (IntKind.u16.wrap (n:Int))=(n:Int):=by rw [IntKind.wrap_u16,Bs];omega
def PA(n:aa):ev (IntKind.u64.wrap (IntKind.u32.wrap (IntKind.i64.wrap (n.Limit+1)))) 4=Gt n:=by
 unfold Gt
 generalize IntKind.i64.wrap (n.Limit+1)=x
 obtain⟨m,_,hm⟩:=LH (IntKind.u32.wrap x)
 obtain⟨k,_,hk⟩:=LH x
 rw [hm,hk,yI,yI]
 refine zO 4 ?_
 rw [Bs,IntKind.wrap_u32]at hm
 rw [Bs]at hk
 show m%4294967296=k%4294967296
 omega
def EI(n:aa): ∀(l:List kF) (b:List Int),b.length+2*l.length<=30000000000->gn n l (W0 b)=some (W0 (b++(l.flatMap Tm++Gt n)))
 |[],b,h=>by
  unfold gn
  show((mj b _).bind _)=_
  rw [wj b _ (by simp at h;omega),bg,PA]
  rfl
 |o::l,b,h=>by
  simp only [iR]at h
  unfold gn
  rw [lK b _ (by simp;omega),bg,LB _ _ (by simp [tE];omega),bg,EI n l _ (by simp [tE];omega),oB,oB]
  rfl
def WB{β:Type}(f1 f9 f2 f3 f4 f10 f11 f5 f8:β)(k:Int):tL (fV (fV (fV (fV (fV (fV (fV (fV (fV ([]:List (Int×β)) 1 f1) 9 f9) 2 f2) 3 f3) 4 f4) 10 f10) 11 f11) 5 f5) 8 f8) k=
  if k=1 then some f1 else if k=9 then some f9 else if k=2 then some f2 else if k=3 then some f3 else if k=4 then some f4 else if k=10 then some f10 else if k=11 then some f11 else if k=5 then some f5 else if k=8 then some f8 else none:=by
 have e:fV (fV (fV (fV (fV (fV (fV (fV (fV ([]:List (Int×β)) 1 f1) 9 f9) 2 f2) 3 f3) 4 f4) 10 f10) 11 f11) 5 f5) 8 f8=[(1,f1),(9,f9),(2,f2),(3,f3),(4,f4),(10,f10),(11,f11),(5,f5),(8,f8)]:=rfl
 rw [e]
 simp only [tL,eq_comm (b:=k)]
def map_some{α β:Type}{x:Option α}{y:α}(h:x=some y)(f:α->β):x.map f=some (f y):=by rw [h];rfl
end Go.Proofs.YtdohlidddcgfjaaGreat


/- bO of this claim: G3. -/
set_option linter.all false
namespace Go.Proofs.YtdohlidddcgfjaaGreat
open Go

def PX(t:Tr): ∀h3,t.wf-> ∀n∈t.flat h3,Dp n=true:=by
 induction t with
 |lf n=>
  intro h3 h m hm
  rw [DY.1 hm,GT];exact h.2.1
 |un n a ih=>
  intro h3 h m hm
  rcases xV.1 hm with hm|hm
  ·exact ih h3 h.2 m hm
  ·rw [DY.1 hm,GT];exact h.1.2.1
 |bi n a b iha ihb=>
  intro h3 h m hm
  rcases xV.1 hm with hm|hm
  ·rcases xV.1 hm with hm|hm
   ·exact iha h3 h.2.1 m hm
   ·exact ihb _ h.2.2 m hm
  ·rw [DY.1 hm,GT];exact h.1.2.1
def Nm{ns:List ap}(h:mY ns=true): ∀n∈ns,Dp n=true:=by
 unfold mY at h
 obtain⟨t,D⟩:=Option.isSome_iff_exists.1 h
 obtain⟨Y,H,_⟩:=nl D
 rw [H]
 exact PX t 0 Y
def Pa{e:aR}(h:mY e.Nodes=true):VE e:=fun n hn Y=>by
 have:=Nm h n hn
 unfold Dp kW at this
 rw [bo (by simp [Y]),pN]at this
 simp [we]at this
 grind
def Ix{e:aR}{ks:List Int}(h:(fM e ks).2=0):mY e.Nodes=true:=by
 unfold fM at h
 split at h
 ·assumption
 ·cases h
def wp{e:aR}{ks:List Int}(h:(fM e ks).2=0):VE e:=Pa (Ix h)
def I3{e:aR}(h:e.Nodes.length=0):VE e:=fun n hn=>by
 rw [tA h]at hn;cases hn
def HC{e:aR}{ks:List Int}(hl:e.Nodes.length<=5000){b:Bool}(h:jH e ks=some b)(W:b=true):VE e:=by
 rw [Cl e ks hl]at h
 cases h
 unfold JL at W
 simp only [nP,qQ]at W
 exact wp W.1
def LQ: ∀(items:List aR) (ob:al) {r:Bool×al},(∀e∈items,e.Nodes.length<=5000)->eb items ob=some r->r.1=true-> ∀e∈items,VE e
 |[],_,_,_,_,_=>fun e he=>by cases he
 |e::tl,ob,r,hl,h,hr=>by
  unfold eb at h
  rw [my e _ (by have:=hl e (nQ ..);omega),bg]at h
  by_cases hk:(fM e ob.a_).2=0
  ·rw [aV (by simp [hk])]at h
   obtain⟨l4,_,h⟩:=bs h
   intro x X
   rcases j8.1 X with rfl|X
   ·exact wp hk
   ·exact LQ tl _ (fun y hy=>hl y (o4 _ hy)) h hr x X
  ·rw [bo (by simpa using hk)]at h
   cases h
   cases hr
def VX{g:fI}{a:List Int}(h:(AN g a).2=true):VE g.Arg:=by
 unfold AN at h
 split at h
 ·exact I3 (by simpa using h)
 ·split at h
  ·simp only [nP,qQ]at h;exact wp h.1.1.1
  ·split at h
   ·simp only [nP,qQ]at h;exact wp h.1.1
   ·simp only [nP,qQ]at h;exact wp h.1.1
def C2{l:al}(V: ∀g∈l.n.Aggs,g.Arg.Nodes.length<=5000)(hgl:l.n.Aggs.length<=5000): ∀(ks R:List Int) {r:Bool×al},R.length+ks.length<=5000->dk l ks {l with result:=R}=some r->r.1=true-> ∀g∈l.n.Aggs,VE g.Arg
 |[],R,r,hR,h,hr=>by
  unfold dk at h
  rw [KC l.n.Aggs _ R V (by simp at hR;omega)]at h
  cases h
  simp only [nP]at hr
  exact fun g hg' =>VX (lw.1 hr.2 g hg')
 |k::tl,R,r,hR,h,hr=>by
  simp only [iR]at hR
  unfold dk at h
  split at h
  ·cases h;cases hr
  ·obtain⟨e2,_,h⟩:=bs h
   obtain⟨l9,h9,h⟩:=bs h
   have h9' :jh R [e2]=some l9:=h9
   rw [cE (by simp;omega)]at h9'
   cases h9'
   exact C2 V hgl tl (R++[e2]) (by simp;omega) h hr
def zC{nx:Nat->Bool->al->Option (Bool×al)}{i:Nat}{e:fI}{ok:Bool}{ob:al}{e3:Int}{x:Bool}{r:Bool×al}(h:gJ nx i e ok ob e3 x=some r): ∃ok' ob',nx (i+1) ok' ob' =some r/\(ok' =true->ok=true/\e.Arg.Nodes.length=0):=by
 unfold gJ at h
 split at h
 ·exact⟨_,_,h,fun h=>by simp at h;exact⟨h.1.1,by rw [h.1.2];rfl⟩⟩
 ·exact⟨_,_,h,fun h=>by cases h⟩
def zD{l:al}{nx:Nat->Bool->al->Option (Bool×al)}{i:Nat}{e:fI}{ok:Bool}{ob:al}{e3:Int}{x:Bool}{r:Bool×al}(h:eV l nx i e ok ob e3 x=some r): ∃ok' ob',nx (i+1) ok' ob' =some r/\(ok' =true->ok=true/\e.Arg.Nodes.length=0):=by
 unfold eV at h
 split at h
 ·exact⟨_,_,h,fun h=>by simp at h;exact⟨h.1.1,by rw [h.1.2];rfl⟩⟩
 ·split at h
  ·obtain⟨e4,_,h⟩:=bs h
   obtain⟨st,_,h⟩:=bs h
   exact⟨_,_,h,fun h=>by simp at h;exact⟨h.1.1,by rw [h.1.2];rfl⟩⟩
  ·split at h
   ·exact zC h
   ·exact zC h
def zA{l:al}: ∀(gs:List fI) (i:Nat) (ok:Bool) (ob:al) {r:Bool×al},bX l gs i ok ob=some r->r.1=true->ok=true/\ ∀g∈gs,g.Arg.Nodes.length=0
 |[],i,ok,ob,r,h,hr=>by
  unfold bX at h
  cases h
  exact⟨hr,fun g V=>by cases V⟩
 |g::gs,i,ok,ob,r,h,hr=>by
  unfold bX at h
  obtain⟨e3,_,h⟩:=bs h
  have: ∃ok' ob',bX l gs (i+1) ok' ob' =some r/\(ok' =true->ok=true/\g.Arg.Nodes.length=0):=by
   split at h
   ·exact zD h
   ·exact zD h
  obtain⟨ok',ob',Y,H⟩:=this
  obtain⟨s,h4⟩:=zA gs _ _ _ Y hr
  obtain⟨h5,h6⟩:=H s
  refine⟨h5,fun x X=>?_⟩
  rcases j8.1 X with rfl|X
  ·exact h6
  ·exact h4 x X
def zB{l:al}{R:List Int}: ∀(ks:List Int) (i:Nat) (ok:Bool) {r:Bool×al},dP l R ks i ok=some r->r.1=true-> ∀g∈l.n.Aggs,g.Arg.Nodes.length=0
 |[],i,ok,r,h,hr=>by
  unfold dP at h
  exact(zA _ _ _ _ h hr).2
 |k::ks,i,ok,r,h,hr=>by
  unfold dP at h
  obtain⟨t,_,h⟩:=bs h
  exact zB ks _ _ h hr
def VV{n:aa}(hn:ju n){l:al}(hl:l.n=n){r:Bool×al}(h:oL n.Op l ()=some r)(hr:r.1=true):VN n:=by
 subst hl
 refine⟨fun ho=>?_,fun ho=>?_,fun ho=>?_⟩
 ·rcases ho with ho|ho
  ·rw [ho]at h
   have h:gx l=some r:=h
   unfold gx at h
   obtain⟨c,_,h⟩:=bs h
   obtain⟨b,Y,h⟩:=bs h
   cases h
   exact HC hn.cond Y hr
  ·rw [ho]at h
   have h:fd l=some r:=h
   unfold fd at h
   obtain⟨b,Y,h⟩:=bs h
   cases h
   exact HC hn.cond Y hr
 ·rcases ho with ho|ho|ho
  ·rw [ho]at h
   have h:d7 l=some r:=h
   exact C2 hn.args hn.aggs l.n.Keys [] (by have:=hn.keys;simpa using this) h hr
  ·rw [ho]at h
   have h:eJ l=some r:=h
   unfold eJ at h
   obtain⟨q,Y,h⟩:=bs h
   by_cases hq:q.1=true
   ·exact C2 hn.args hn.aggs l.n.Keys [] (by have:=hn.keys;simpa using this) Y hq
   ·rw [bo (by simpa using hq)]at h
    cases h;cases hr
  ·rw [ho]at h
   have h:d8 l=some r:=h
   unfold d8 at h
   obtain⟨e,_,h⟩:=bs h
   split at h
   ·cases h;cases hr
   ·obtain⟨c,_,h⟩:=bs h
    exact fun g V=>I3 (zB _ _ _ h hr g V)
 ·rw [ho]at h
  have h:ib l=some r:=h
  exact LQ l.n.Items _ hn.exprs h hr
def uE{l:al}{i:Int}{ask:al->Unit->Option (Bool×al)}{e:aa}{r:Int}: ∀(tl:List Int) (i5:Nat) (a b:List Int) {q:Bool×al},bc l i ask e r tl i5 a b=some q->q.1=true-> ∃l0 r2,l0.n=e/\ask l0 ()=some r2/\r2.1=true
 |[],i5,a,b,q,h,hq=>by
  unfold bc at h
  split at h
  ·cases h;cases hq
  ·obtain⟨r2,H,h⟩:=bs h
   by_cases hr:r2.1=true
   ·exact⟨_,r2,rfl,H,hr⟩
   ·rw [bo (by simp [hr])]at h
    cases h;cases hq
 |p::tl,i5,a,b,q,h,hq=>by
  unfold bc at h
  obtain⟨e2,_,h⟩:=bs h
  obtain⟨t1,_,h⟩:=bs h
  split at h
  ·cases h;cases hq
  ·split at h
   ·exact uE tl _ _ _ h hq
   ·exact uE tl _ _ _ h hq
def M1{l:al}{i:Int}{ask:al->Unit->Option (Bool×al)}{q:Bool×al}(h:dA l i ask=some q)(hq:q.1=true){e:aa}(he:gG l.nodes i=some e): ∃l0 r2,l0.n=e/\ask l0 ()=some r2/\r2.1=true:=by
 unfold dA at h
 rw [he,bg]at h
 obtain⟨r,_,h⟩:=bs h
 obtain⟨t,_,h⟩:=bs h
 split at h
 ·cases h;cases hq
 ·obtain⟨y,_,h⟩:=bs h
  split at h
  ·cases h;cases hq
  ·obtain⟨y1,_,h⟩:=bs h
   exact uE _ _ _ _ h hq
def L8{ns:List aa}(hs:rC ns): ∀(tl:List aa) (i:Nat) (l:al),ns.drop i=tl->S4 ns l i-> ∀{out:List (List Int)} {w:Int},fU ns ((mL).getD []) tl i (-1) l=some (out,w,0)-> ∀n∈tl,VN n
 |[],_,_,_,_,_,_,_=>fun n hn=>by cases hn
 |e::tl,i,l,hd,hS,out,w,h=>by
  obtain⟨hidx,hi,hd'⟩:=oQ hd
  have hidx' :=hidx
  rw [eK]at hidx
  obtain⟨ok,l',g1,g2,g3⟩:=ER hS hs hidx tl
  unfold fU at h
  have g1' :dA l (i:Int) ((tL ((mL).getD []) e.Op).getD (fun _ _=>none))=some (ok,l'):=g1
  rw [g1',bg]at h
  cases ok with
  |false=>
   rw [bo (by rfl)]at h
   unfold j6 at h
   rw [aV (by simp;omega),pX l' (by omega)]at h
   cases h
  |true=>
   rw [aV (by simp)]at h
   have hse:=hs.n e (sI hidx)
   obtain⟨l0,r2,k1,k2,k3⟩:=M1 g1 rfl (by rw [hS.k.nodes];exact hidx')
   intro n hn
   rcases j8.1 hn with rfl|hn
   ·exact VV hse k1 k2 k3
   ·exact L8 hs tl (i+1) l' hd' (g2 rfl).1 h n hn
def QW{ns:List aa}(hs:rC ns){out:List (List Int)}{w:Int}(h:jI ns=some (out,w,0)): ∀n∈ns,VN n:=by
 unfold jI at h
 split at h
 ·cases h
 ·exact L8 hs ns 0 ⟨ns,[],[],⟨0,0,0,0,[],false,⟨[]⟩,[],[],[],[],0⟩,[],[],[]⟩ rfl ⟨⟨rfl,rfl,fun p hp=>(by cases hp),dY _,fun k hk=>(by cases hk),fun j hj=>by omega⟩,.nil,fun k hk=>by cases hk⟩ h
end Go.Proofs.YtdohlidddcgfjaaGreat


/- bO of this claim: G4. -/
set_option linter.all false
namespace Go.Proofs.YtdohlidddcgfjaaGreat
open Go

def Q6{α:Type} [DecidableEq α]{g:List α->Nat->Option Bool}{s2:List α}{P:α->Prop}(h0: ∀i,g [] i=some true)(Y: ∀e tl i,P e->g (e::tl) i=(gG s2 (i:Int)).bind fun e1=>if e=e1 then g tl (i+1)else some false): ∀(l:List α) (i:Nat),(∀e∈l,P e)->i+l.length=s2.length->g l i=some (decide (l=s2.drop i))
 |[],i,_,hl=>by
  rw [h0]
  simp only [vx]at hl
  rw [D0 (by omega)]
  simp
 |e::tl,i,hp,hl=>by
  simp only [iR]at hl
  have hi:i<s2.length:=by omega
  rw [Y e tl i (hp e (nQ ..)),eK,sG hi,bg,Ae hi]
  by_cases h:e=s2[i]
  ·rw [bo h,Q6 h0 Y tl (i+1) (fun x X=>hp x (o4 _ X)) (by omega),<-h]
   congr 1
   rw [Aa]
   exact⟨fun hh=>by rw [<-hh],fun hh=>(vM hh).2⟩
  ·rw [aV h,AX (fun hh=>h (vM hh).1)]
def SS{α:Type} [DecidableEq α]{g:List α->Nat->Option Bool}{s1 s2:List α}(h:s1.length=s2.length->g s1 0=some (decide (s1=s2.drop 0))):(if((s1.length:Int) !=(s2.length:Int))then some false else g s1 0)=some (decide (s1=s2)):=by
 by_cases hl:s1.length=s2.length
 ·rw [aV (by simp [hl]),h hl,z2]
 ·rw [bo (by simp;omega),AX (fun hh=>hl (by rw [hh]))]
def BW{α:Type}{p:Prop} [Decidable p](x y:α):(if(!decide p)=true then x else y)=if p then y else x:=by
 by_cases h:p<;>simp [h]
def wP(a b:List Int):gU a b=some (decide (a=b)):=by
 unfold gU
 refine SS fun hl=>Q6 (P:=fun _=>True) (fun _=>rfl) (fun e tl i _=>?_) a 0 (fun _ _=>trivial) (by simpa using hl)
 conv=>lhs;unfold jx
 congr 1;funext e1
 by_cases h:e=e1<;>simp [h]
def Jn(a b:List kF):gC a b=some (decide (a=b)):=by
 unfold gC
 refine SS fun hl=>Q6 (P:=fun _=>True) (fun _=>rfl) (fun e tl i _=>?_) a 0 (fun _ _=>trivial) (by simpa using hl)
 conv=>lhs;unfold fO
 congr 1;funext e1
 exact BW _ _
def Lo(a b:List ap):fy a b=some (decide (a=b)):=by
 unfold fy
 refine SS fun hl=>Q6 (P:=fun _=>True) (fun _=>rfl) (fun e tl i _=>?_) a 0 (fun _ _=>trivial) (by simpa using hl)
 conv=>lhs;unfold eG
 congr 1;funext e1
 exact BW _ _
def Jm(a b:List am):dJ a b=some (decide (a=b)):=by
 unfold dJ
 refine SS fun hl=>Q6 (P:=fun _=>True) (fun _=>rfl) (fun e tl i _=>?_) a 0 (fun _ _=>trivial) (by simpa using hl)
 conv=>lhs;unfold dr
 congr 1;funext e1
 exact BW _ _
def zR{α:Type} [DecidableEq α]{f:α->α->Option Bool}{e e1:α}{x y:Option Bool}(h:f e e1=some (decide (e=e1))):((f e e1).bind fun r=>if(!r)=true then y else x)=if e=e1 then x else y:=by
 rw [h,bg];exact BW _ _
def Hc{f:List am->List am->Option Bool}(hf: ∀x y,f x y=some (decide (x=y)))(a b:List (List am)):ce a b f=some (decide (a=b)):=by
 unfold ce
 refine SS fun hl=>Q6 (P:=fun _=>True) (fun _=>rfl) (fun e tl i _=>?_) a 0 (fun _ _=>trivial) (by simpa using hl)
 conv=>lhs;unfold bV
 congr 1;funext e1
 exact zR (hf e e1)
def Hd{f:fI->fI->Option Bool}(hf: ∀x y,f x y=some (decide (x=y)))(a b:List fI):dg a b f=some (decide (a=b)):=by
 unfold dg
 refine SS fun hl=>Q6 (P:=fun _=>True) (fun _=>rfl) (fun e tl i _=>?_) a 0 (fun _ _=>trivial) (by simpa using hl)
 conv=>lhs;unfold cX
 congr 1;funext e1
 exact zR (hf e e1)
def Ew{f:aR->aR->Option Bool}(hf: ∀x y,f x y=some (decide (x=y)))(a b:List aR):cT a b f=some (decide (a=b)):=by
 unfold cT
 refine SS fun hl=>Q6 (P:=fun _=>True) (fun _=>rfl) (fun e tl i _=>?_) a 0 (fun _ _=>trivial) (by simpa using hl)
 conv=>lhs;unfold cO
 congr 1;funext e1
 exact zR (hf e e1)
def Eu{f:aa->aa->Option Bool}(hf: ∀x y,f x y=some (decide (x=y)))(a b:List aa):cK a b f=some (decide (a=b)):=by
 unfold cK
 refine SS fun hl=>Q6 (P:=fun _=>True) (fun _=>rfl) (fun e tl i _=>?_) a 0 (fun _ _=>trivial) (by simpa using hl)
 conv=>lhs;unfold cF
 congr 1;funext e1
 exact zR (hf e e1)
def Ev{f:dC->dC->Option Bool}(hf: ∀x y,f x y=some (decide (x=y)))(a b:List dC):cS a b f=some (decide (a=b)):=by
 unfold cS
 refine SS fun hl=>Q6 (P:=fun _=>True) (fun _=>rfl) (fun e tl i _=>?_) a 0 (fun _ _=>trivial) (by simpa using hl)
 conv=>lhs;unfold cN
 congr 1;funext e1
 exact zR (hf e e1)
def ir{p q:Bool}{x:Option Bool}(h:x=some q):(if p=true then(x.bind fun r=>some r)else some false)=some (p&&q):=by
 subst h
 cases p<;>rfl
def wG(a b:aR):rL a b=some (decide (a=b)):=by
 unfold rL
 rw [Lo,bg]
 cases a;cases b;simp
def Lh(a b:fI):oH a b=some (decide (a=b)):=by
 unfold oH
 rw [ir (wG _ _),bg]
 cases a;cases b;simp [Bool.beq_eq_decide_eq]
def Is(a b:aa):nz a b=some (decide (a=b)):=by
 unfold nz
 rw [ir (wP _ _),bg,ir (wP _ _),bg,ir (Jn _ _),bg,ir (wG _ _),bg,ir (Hd Lh _ _),bg,ir (Ew wG _ _),bg]
 cases a;cases b
 congr 1
 rw [vI]
 simp only [nP,qQ,mg,aa.mk.injEq]
 grind
def IM(a b:dC):qX nz a b=some (decide (a=b)):=by
 unfold qX
 rw [ir (wP _ _),bg,ir (Eu Is _ _),bg]
 cases a;cases b
 congr 1
 rw [vI]
 simp only [nP,qQ,mg,dC.mk.injEq]
 grind
def Ia(a b:da):wZ a b=some (decide (a=b)):=by
 unfold wZ
 rw [Ev IM,bg]
 cases a;cases b;simp
def Ed(a b:aO):n8 a b=some (decide (a=b)):=by
 unfold n8
 rw [Hc (fun x y=>by unfold oW;rw [Jm,bg]),bg]
 obtain⟨k,h3,q,l,⟨r,e,c⟩⟩:=a
 obtain⟨k',s',q',l',⟨r',e',c'⟩⟩:=b
 congr 1
 rw [vI]
 simp only [nP,qQ,mg,aO.mk.injEq,bH.mk.injEq]
 grind
def Ep(a b:ci):oX a b=some (decide (a=b)):=by
 unfold oX
 rw [ir (Ed _ _),bg,ir (Ia _ _),bg]
 cases a;cases b
 congr 1
 rw [vI]
 simp only [nP,qQ,mg,ci.mk.injEq,List.cons.injEq]
 grind
end Go.Proofs.YtdohlidddcgfjaaGreat


/- bO of this claim: G5. -/
set_option linter.all false
namespace Go.Proofs.YtdohlidddcgfjaaGreat
open Go

def Th(r:List am):List Int:=IntKind.u8.wrap (r.length:Int)::r.flatMap vB
structure V6(l:List (List am)):Prop where
 len:l.length<=10
 r: ∀r∈l,r.length<=20/\ ∀v∈r,v.S.length<=100
def O9(r:List am):List Int×Int:=if 16<r.length then([],3)else if r.all gr then(Th r,0)else([],120)
def zl: ∀(l:List am) (b:List Int),(∀v∈l,v.S.length<=100)->b.length+117*l.length<=50000000000->kN l b=some (if l.all gr then(b++l.flatMap vB,0)else([],120))
 |[],b,_,_=>by unfold kN;simp
 |v::l,b,hs,h=>by
  have hv:=hs v (nQ ..)
  have hvl:=FV v
  simp only [iR,Nat.mul_succ]at h
  unfold kN
  rw [wI v (by omega),bg]
  by_cases hr:gr v=true
  ·rw [bo hr,aV (by simp)]
   show((jh b (vB v)).bind _)=_
   rw [cE (by omega),bg,zl l _ (fun x X=>hs x (o4 _ X)) (by simp;omega)]
   simp [hr]
  ·rw [aV hr,bo (by simp)]
   simp [hr]
def I8(r:List am)(h:r.length<=20/\ ∀v∈r,v.S.length<=100):xh r=some (O9 r):=by
 unfold xh O9
 by_cases hl:16<r.length
 ·rw [bo (by simp;omega),bo hl]
 ·rw [aV (by simp;omega),aV hl]
  unfold vb
  rw [zl r _ h.2 (by simp;omega),bg]
  cases r.all gr<;>rfl
def LK(r:List am)(h:r.length<=20/\ ∀v∈r,v.S.length<=100):(O9 r).1.length<=2341:=by
 have Y:=Mj (f:=vB) (k:=117) r fun v hv=>by have:=FV v;have:=h.2 v hv;omega
 have:=h.1
 unfold O9
 split
 ·simp
 ·split
  ·simp only [Th,iR];omega
  ·simp
def Q5:List (List am)->Nat->List Int->List Int×Int×Int
 |[],_,b=>(b,0,0)
 |r::l,i,b=>if(O9 r).2=0 then Q5 l (i+1) (b++(O9 r).1)else([],i,(O9 r).2)
def Bm: ∀(l:List (List am)) (i:Nat) (b:List Int) (a e:Int),(∀r∈l,r.length<=20/\ ∀v∈r,v.S.length<=100)->b.length+2341*l.length<=50000000000->e=0->mU l i b a e=some (Q5 l i b)
 |[],i,b,a,e,_,_,he=>by
  subst he
  unfold mU oK
  rw [aV (by simp)];rfl
 |r::l,i,b,a,e,hs,h,_=>by
  have hr:=hs r (nQ ..)
  have hrl:=LK r hr
  simp only [iR,Nat.mul_succ]at h
  unfold mU
  rw [I8 r hr,bg]
  unfold Q5
  by_cases h0:(O9 r).2=0
  ·rw [aV (by simp [h0]),bo h0,cE (by omega),bg,Bm l (i+1) _ a _ (fun x X=>hs x (o4 _ X)) (by simp;omega) h0]
  ·rw [bo (by simpa using h0),aV h0]
   unfold oK
   rw [bo (by simpa using h0)]
def RS(l:List (List am)):List Int×Int×Int:=Q5 l 0 (ev (l.length:Int) 2)
def GR(l:List (List am))(hs:V6 l):vc l=some (RS l):=by
 have:=hs.len
 unfold vc
 rw [aV (by simp;omega),wk _ _ (by simp),bg,Tn (by omega),mo,Bm l 0 _ _ _ hs.r (by simp [gN];omega) rfl]
 rfl
def L9: ∀(l:List (List am)) (i:Nat) (b:List Int),(∀r∈l,r.length<=20/\ ∀v∈r,v.S.length<=100)->(Q5 l i b).1.length<=b.length+2341*l.length
 |[],i,b,_=>by simp [Q5]
 |r::l,i,b,hs=>by
  have hrl:=LK r (hs r (nQ ..))
  unfold Q5
  split
  ·have:=L9 l (i+1) (b++(O9 r).1) fun x X=>hs x (o4 _ X)
   rw [kJ]at this
   simp only [iR,Nat.mul_succ];omega
  ·simp
def RR(l:List (List am))(hs:V6 l):(RS l).1.length<=30000:=by
 have:=L9 l 0 (ev (l.length:Int) 2) hs.r
 have:=hs.len
 rw [gN]at*
 unfold RS;omega
def y5(n:Nat):Nat->List Int
 |0=>[]
 |k+1=>((n%256:Nat):Int)::y5 (n/256) k
def LJ: ∀(k n:Nat) (out:List Int),out.length+k<=60000000000->mK k out (n:Int)=some (out++y5 n k)
 |0,n,out,_=>by unfold mK;simp [y5]
 |k+1,n,out,h=>by
  unfold mK
  rw [show IntKind.u8.wrap (n:Int)=((n%256:Nat):Int) by rw [z7];omega,cE (by simp;omega),bg,show((n:Int).fdiv (2^(min (Int.toNat (8:Int)) IntKind.u32.bits)))=((n/256:Nat):Int) by
   show(n:Int).fdiv 256=_
   rw [EF _ (by omega)];omega,LJ k (n/256) _ (by simp;omega),oB]
  rfl
def Za(ns:List aa):Bool:=match jI ns with
 |some r=>r.2.2==0
 |none=>false
def QG(c:Int):Bool:=decide (c<0)||decide (16<=c)
def Fi(f:dC):Bool:=Za f.Nodes&&((f.At==1)||(f.At==2))&&((decide (1<=f.Way)&&decide (f.Way<=4))&&decide ((f.Cols.length:Int)<=16)&& !(f.Cols.any QG))
def Be(p:da):Bool:=(decide ((1:Int)<=(p.Frags.length:Int))&&decide ((p.Frags.length:Int)<=30))&&p.Frags.all Fi
def zT{p q:Bool}{x:Option Bool}(h:x=some q):(if p=true then(x.bind fun r=>some (!r))else some false)=some (p&& !q):=by
 subst h
 cases p<;>rfl
def Ff(p:da): ∀l:List dC,(∀f∈l,∃r,jI f.Nodes=some r)->mS p l=some ((decide ((1:Int)<=(p.Frags.length:Int))&&decide ((p.Frags.length:Int)<=30))&&l.all Fi)
 |[],_=>by unfold mS;simp
 |f::l,hs=>by
  obtain⟨⟨out,w,e⟩,Y⟩:=hs f (nQ ..)
  have hk:Za f.Nodes=(e==0):=by unfold Za;rw [Y]
  unfold mS
  rw [Y,bg,jR (f:=pR) (g:=QG) (fun _=>rfl)]
  have D:=zT (p:=((decide ((1:Int)<=f.Way))&&(decide (f.Way<=(4:Int))))&&(decide ((f.Cols.length:Int)<=(16:Int)))) (rfl:some (f.Cols.any QG)=some (f.Cols.any QG))
  rw [D,bg,Ff p l fun x X=>hs x (o4 _ X)]
  have X:(((e !=(0:Int))||(!((f.At==(1:Int))||(f.At==(2:Int)))))||(!((((decide ((1:Int)<=f.Way))&&(decide (f.Way<=(4:Int))))&&(decide ((f.Cols.length:Int)<=(16:Int))))&& !(f.Cols.any QG))))= !(Fi f):=by
   unfold Fi
   rw [hk]
   simp only [bne,Bool.not_and,Bool.not_not]
  show(if _ then _ else _)=_
  rw [X,yV]
  cases Fi f<;>simp
end Go.Proofs.YtdohlidddcgfjaaGreat


/- bO of this claim: G6. -/
set_option linter.all false
namespace Go.Proofs.YtdohlidddcgfjaaGreat
open Go

structure SmM(m:ci):Prop where
 p:SmP m.Plan
 r:V6 m.Packet.Batch.Rows
def BH(l:List (List am)):Bool:=(decide ((0:Int)<(l.length:Int))&&decide ((l.length:Int)<=4))&&l.all ou
def GV(b:bH)(seq:Int):Bool:=
 if(decide (seq<1)||decide (1099511627776<seq))=true then false
 else if b.End then((b.Rows.length:Int)==0)&&(b.Count==IntKind.u64.wrap (seq-1))else(b.Count==0)&&BH b.Rows
def sY(p:aO):Bool:=(decide (1<=p.Session)&&decide (p.Session<=2147483647))&&
  (if p.Kind=1 then(p.Limit==0)&&GV p.Batch p.Seq
   else if p.Kind=2 then(((((((p.Batch.Rows.length:Int)==0)&&(!p.Batch.End))&&(p.Batch.Count==0))&&decide (1<=p.Seq))&&decide (p.Seq<=1099511627777))&&decide (IntKind.u64.wrap (p.Seq-1)<=p.Limit))&&decide (p.Limit<=1099511627776)
   else false)
def Bq{f:List am->Option Bool}{g:List am->Bool}(hf: ∀v,f v=some (g v)): ∀(l:List (List am)) (i:Nat),∃r:Int,dF f l i=some r/\decide (0<=r)=l.any g
 |[],i=>⟨-1,rfl,rfl⟩
 |x::l,i=>by
  unfold dF
  rw [hf,bg,List.any_cons]
  cases h:g x with
  |true=>rw [bo rfl];exact⟨_,rfl,by simp⟩
  |false=>rw [aV (by simp),tu];exact Bq hf l (i+1)
def DN{f:List am->Option Bool}{g:List am->Bool}(hf: ∀v,f v=some (g v))(l:List (List am)):eH l f=some (l.any g):=by
 obtain⟨r,Y,H⟩:=Bq hf l 0
 unfold eH hX
 rw [Y,bg,H]
def Iw(l:List (List am)):xa l=some (BH l):=by
 unfold xa BH
 rw [zT (DN (g:=fun r=> !ou r) (fun v=>by
  unfold wm
  rw [Ga,bg]
  cases ou v<;>rfl) l),bg]
 congr 2
 rw [<-List.all_eq_not_any_not]
def Gs(b:bH)(seq:Int):uR b seq=some (GV b seq):=by
 unfold uR GV
 rw [ir (Iw _),bg]
 split
 ·rfl
 ·split<;>rfl
def Ej(b:bH):w9 b ⟨[],false,0⟩=some ((((b.Rows.length:Int)==0)&&(!b.End))&&(b.Count==0)):=by
 unfold w9
 rw [ir (HU _ _),bg]
 congr 1
 rw [vI]
 simp
 grind
def PN(b:Bool):(if(!b)=true then some (321:Int)else some 0)=some (if b then 0 else 321):=by cases b<;>rfl
def Ey(p:aO):n6 p=some (if sY p then 0 else 321):=by
 unfold n6 uQ sY
 rw [bg,ir (Gs _ _),bg,ir (Ej _),bg,PN,PN]
 by_cases Y:p.Kind=1
 ·rw [bo (by simp [Y]),bo Y,uA]
 ·rw [aV (by simpa using Y),aV Y]
  by_cases H:p.Kind=2
  ·rw [bo (by simp [H]),bo H]
   congr 2
   rw [vI];simp;grind
  ·rw [aV (by simpa using H),aV H,Bool.and_false]
   rfl
abbrev zP:aO:=⟨0,0,0,0,⟨[],false,0⟩⟩
def L0(n:Int):Bool:=decide (0<=n)&&decide (n<=8)
def WI(m:ci):Bool:=((L0 m.From&&L0 m.To)&&decide (1<=m.Epoch))&&decide (m.Epoch<=12)
def vV(m:ci):Bool:=WI m&&
  (if m.Kind=1 then((decide (1<=m.Sites)&&decide (m.Sites<=8))&&Be m.Plan)&&decide (m.Frag=0/\m.Packet=zP/\m.Err=0)
   else if m.Kind=2\/m.Kind=6\/m.Kind=7 then decide (m.Frag=0/\m.Sites=0/\m.Plan=⟨[]⟩/\m.Packet=zP/\m.Err=0)
   else if m.Kind=3\/m.Kind=4 then(((decide (0<=m.Frag)&&decide (m.Frag<30))&&(m.Packet.Kind==(if m.Kind=3 then 1 else 2)))&&sY m.Packet)&&decide (m.Sites=0/\m.Plan=⟨[]⟩/\m.Err=0)
   else if m.Kind=5 then((m.Err==140)||(m.Err==300))&&decide (m.Frag=0/\m.Sites=0/\m.Plan=⟨[]⟩/\m.Packet=zP)
   else false)
def JG(m:ci):Bool:=
 if m.Kind=1 then decide (m.Frag=0/\m.Packet=zP/\m.Err=0)
 else if m.Kind=3\/m.Kind=4 then decide (m.Sites=0/\m.Plan=⟨[]⟩/\m.Err=0)
 else if m.Kind=5 then decide (m.Frag=0/\m.Sites=0/\m.Plan=⟨[]⟩/\m.Packet=zP)
 else decide (m.Frag=0/\m.Sites=0/\m.Plan=⟨[]⟩/\m.Packet=zP/\m.Err=0)
def El(m:ci):s6 m=some (JG m):=by
 unfold s6 pP JG
 simp only [Ep,bg,ci.mk.injEq]
 by_cases Y:m.Kind=1
 ·rw [bo (by simp [Y]),bo Y];congr 1;rw [Aa];simp
 rw [aV (by simpa using Y),aV Y]
 by_cases s:m.Kind=3
 ·rw [bo (by simp [s]),bo (by simp [s]),bo (.inl s)];congr 1;rw [Aa];simp
 rw [aV (by simpa using s)]
 by_cases h4:m.Kind=4
 ·rw [bo (by simp [h4]),bo (.inr h4)];congr 1;rw [Aa];simp
 rw [aV (by simpa using h4),aV (show¬(m.Kind=3\/m.Kind=4) by omega)]
 by_cases h5:m.Kind=5
 ·rw [bo (by simp [h5]),bo h5];congr 1;rw [Aa];simp
 rw [aV (by simpa using h5),aV h5];congr 1;rw [Aa];simp
def GQ(m:ci):Bool:=
 if m.Kind=1 then(decide (1<=m.Sites)&&decide (m.Sites<=8))&&Be m.Plan
 else if m.Kind=2\/m.Kind=6\/m.Kind=7 then true
 else if m.Kind=3\/m.Kind=4 then((decide (0<=m.Frag)&&decide (m.Frag<30))&&(m.Packet.Kind==(if m.Kind=3 then 1 else 2)))&&sY m.Packet
 else if m.Kind=5 then(m.Err==140)||(m.Err==300)
 else false
def Bk(m:ci)(k:Int):ip m k=some (((decide (0<=m.Frag)&&decide (m.Frag<30))&&(m.Packet.Kind==k))&&sY m.Packet):=by
 unfold ip
 rw [Ey]
 have: ∀b c:Bool,((if b=true then((some (if c=true then(0:Int)else 321)).bind fun r=>some (r==(0:Int)))else some false).bind fun t=>some t)=some (b&&c):=by decide
 exact this _ _
def C4(m:ci)(hl:sm m.Plan=some (Be m.Plan)):rt m=some (GQ m):=by
 unfold rt mI GQ
 rw [ir hl,bg,Bk,Bk,bg,bg]
 by_cases Y:m.Kind=1
 ·rw [bo (by simp [Y]),bo Y]
 rw [aV (by simpa using Y),aV Y]
 by_cases H:m.Kind=2
 ·rw [bo (by simp [H]),bo (by simp [H]),bo (.inl H)]
 rw [aV (by simpa using H)]
 by_cases h6:m.Kind=6
 ·rw [bo (by simp [h6]),bo (by simp [h6]),bo (.inr (.inl h6))]
 rw [aV (by simpa using h6)]
 by_cases h7:m.Kind=7
 ·rw [bo (by simp [h7]),bo (.inr (.inr h7))]
 rw [aV (by simpa using h7),aV (show¬(m.Kind=2\/m.Kind=6\/m.Kind=7) by omega)]
 by_cases s:m.Kind=3
 ·rw [bo (by simp [s]),bo (show m.Kind=3\/m.Kind=4 from .inl s),bo s]
 rw [aV (by simpa using s)]
 by_cases h4:m.Kind=4
 ·rw [bo (by simp [h4]),bo (show m.Kind=3\/m.Kind=4 from .inr h4),aV s]
 rw [aV (by simpa using h4),aV (show¬(m.Kind=3\/m.Kind=4) by omega)]
 by_cases h5:m.Kind=5
 ·rw [bo (by simp [h5]),bo h5]
 ·rw [aV (by simpa using h5),aV h5]
def Em(m:ci)(hl:sm m.Plan=some (Be m.Plan)):ml m=some (vV m):=by
 unfold ml
 rw [show mR m.From=some (L0 m.From)from rfl,bg,ir (show mR m.To=some (L0 m.To)from rfl),bg,ir (El m),bg,ir (C4 m hl),bg]
 congr 1
 unfold vV JG GQ WI
 rw [uA]
 congr 1
 repeat' split
 all_goals first|rfl|(exfalso;omega)|exact Bool.and_comm _ _|(simp;done)
def Zb(m:ci):List Int:=tE [m.Kind,m.From,m.To,m.Epoch]
def xP(p:aO):List Int:=ev (IntKind.u64.wrap p.Session) 4++ev p.Seq 8++fB p.Batch.End::(if p.Batch.End then ev p.Batch.Count 8 else(RS p.Batch.Rows).1)
def Jd(p:aO):List Int:=ev (IntKind.u64.wrap p.Session) 4++ev p.Seq 8++ev p.Limit 8
def Ot(m:ci):List Int:=Zb m++(if m.Kind=1 then IntKind.u8.wrap m.Sites::Nv m.Plan else if m.Kind=3 then IntKind.u8.wrap m.Frag::xP m.Packet else if m.Kind=4 then IntKind.u8.wrap m.Frag::Jd m.Packet else if m.Kind=5 then [fB (m.Err==300)]else [])
def LA(b:List Int)(p:aO)(hs:V6 p.Batch.Rows)(h:b.length<=1000000000):lC (W0 b) p=some (W0 (b++if p.Kind=2 then Jd p else xP p)):=by
 have hll:=RR _ hs
 unfold lC
 show((mj b p.Session).bind _)=_
 rw [wj b _ (by omega),bg,lT _ _ (by simp [gN];omega),bg]
 by_cases H:p.Kind=2
 ·rw [bo (by simp [H]),bo H,lT _ _ (by simp [gN];omega),bg]
  simp [Jd]
 ·rw [aV (by simpa using H),aV H]
  show((gj (W0 _) p.Batch.End).bind _)=_
  rw [LB _ _ (by simp [gN];omega),bg]
  unfold xP
  cases he:p.Batch.End with
  |true=>
   rw [bo rfl,bo rfl]
   show((jr _ _).bind _)=_
   rw [lT _ _ (by simp [gN];omega),bg]
   simp
  |false=>
   rw [aV (by simp),aV (by simp),GR _ hs,bg]
   show((jh _ (RS p.Batch.Rows).1).bind _)=_
   rw [cE (by simp [gN];omega),bg]
   simp
def JF(m:ci)(hp: ∀b,b.length<=10->Be m.Plan=true->kY (W0 b) m.Plan=some (W0 (b++Nv m.Plan)))(hs:m.Kind=3\/m.Kind=4->sY m.Packet=true->V6 m.Packet.Batch.Rows)(hr:vV m=true):gY (W0 []) m=some (W0 (Ot m)):=by
 unfold vV at hr
 rw [nP]at hr
 have hr:=hr.2
 unfold gY jA
 rw [lK [] _ (by simp),bg,mo]
 unfold Ot
 show(if(m.Kind==(1:Int))=true then _ else _)=_
 by_cases Y:m.Kind=1
 ·rw [bo Y]at hr
  simp only [nP]at hr
  rw [bo (by simp [Y]),bo Y,lK _ _ (by simp [tE]),bg,hp _ (by simp [tE]) hr.1.2,bg]
  simp [Zb,tE]
 rw [aV (by simpa using Y),aV Y]
 rw [aV Y]at hr
 by_cases s:m.Kind=3
 ·rw [aV (by omega),bo (.inl s),bo s]at hr
  simp only [nP,qQ]at hr
  rw [bo (by simp [s]),bo (by simp [s]),bo s,lK _ _ (by simp [tE]),bg,LA _ _ (hs (.inl s) hr.1.2) (by simp [tE]),bg,aV (by omega)]
  simp [Zb,tE]
 rw [aV (by simpa using s),aV s]
 by_cases h4:m.Kind=4
 ·rw [aV (by omega),bo (.inr h4),aV s]at hr
  simp only [nP,qQ]at hr
  rw [bo (by simp [h4]),bo h4,lK _ _ (by simp [tE]),bg,LA _ _ (hs (.inr h4) hr.1.2) (by simp [tE]),bg,bo (by omega)]
  simp [Zb,tE]
 rw [aV (by simpa using h4),aV h4]
 by_cases h5:m.Kind=5
 ·rw [bo (by simp [h5]),bo h5,LB _ _ (by simp [tE]),bg]
  rfl
 ·rw [aV (by simpa using h5),aV h5,tv]
  rfl
def O8(n k:Nat):(y5 n k).length=k:=by
 induction k generalizing n with
 |zero=>rfl
 |succ k ih=>simp [y5,ih]
def Rk:wn=some true:=by kernel_rfl
def AL(b:List Int):lc b b=some true:=by unfold lc;simp
end Go.Proofs.YtdohlidddcgfjaaGreat


/- bO of this claim: H1. -/
set_option linter.all false
namespace Go.Proofs.YtdohlidddcgfjaaGreat
open Go

def zq{n:Nat}(h:n<=900000000):n<eQ:=by unfold eQ;omega
def rd(b:List Int)(k:Nat)(y:Int):ae:=⟨⟨(k:Int),y⟩,b⟩
def tQ(b:List Int)(k:Nat)(y:Int):fg (rd b k y)=some y:=by unfold fg;simp [rd]
def xl{b:List Int}{k:Nat}(y:Int)(hk:k<=b.length)(W:b.length<=50000000000):fC (rd b k y)=some ((b.length-k:Nat):Int):=by
 unfold fC
 simp only [rd,nj,kQ]
 rw [qd];congr 1;omega
def Mf{α:Type}{b tl:List α}{k:Nat}{e:α}(h:b.drop k=e::tl):gG b (k:Int)=some e:=fa h
def Fs{α:Type}{b:List α}{k:Nat}(h:k<b.length): ∃e,b.drop k=e::b.drop (k+1):=⟨b[k],Ae h⟩
def Ct{i:Nat}(h:i<=50000000000):IntKind.i64.wrap ((i:Int)+1)=((i+1:Nat):Int):=by rw [qd];omega
def Te(x c:Int):Int:=IntKind.u64.wrap ((IntKind.u64.wrap (x*2^(min (Int.toNat (8:Int)) IntKind.u64.bits)))+(IntKind.u64.wrap c))
def Pv{b:List Int}(W:b.length<=50000000000): ∀(m n i k f:Nat) (x:Int),i+m=n->n<=50000000000->k+m<=b.length->m<f->
  ff (n:Int) f (i:Int) x (rd b k 0)=some (rd b (k+m) 0,((b.drop k).take m).foldl Te x)
 |0,n,i,k,f+1,x,Y,_,_,_=>by
  unfold ff
  rw [aV (by rw [mg];omega)]
  simp
 |m+1,n,i,k,f+1,x,Y,hn,H,s=>by
  obtain⟨e,he⟩:=Fs (b:=b) (k:=k) (by omega)
  unfold ff
  rw [bo (by rw [mg];omega)]
  have e1:gG (rd b k 0).own (rd b k 0).place.at_=some e:=Mf he
  rw [e1,bg]
  show(some (Te x e)).bind _=_
  rw [bg,Ct (by omega)]
  have e2:({rd b k 0 with place:=({(rd b k 0).place with at_:=IntKind.i64.wrap ((rd b k 0).place.at_+1)}:lq)}:ae)=rd b (k+1) 0:=by
   show(⟨⟨IntKind.i64.wrap ((k:Int)+1),0⟩,b⟩:ae)=_
   rw [Ct (by omega)];rfl
  rw [e2,Pv W m n (i+1) (k+1) f (Te x e) (by omega) hn (by omega) (by omega),he,show k+1+m=k+(m+1)from by omega]
  rfl
def EJ{b:List Int}{k n:Nat}(y:Int)(hk:k<=b.length)(W:b.length<=900000000):cd (rd b k y) (n:Int)=
  some (if y≠0 then(0,rd b k y)else if b.length-k<n then(0,rd b k 7)else(((b.drop k).take n).foldl Te 0,rd b (k+n) 0)):=by
 unfold cd m1
 by_cases hy:y=0
 ·subst hy
  rw [aV (by simp [rd]),aV (by rw [mg];omega),xl 0 hk (by omega),bg]
  by_cases hn:b.length-k<n
  ·rw [bo (by rw [mg];omega),aV (by simp),bo hn];rfl
  ·rw [aV (by rw [mg];omega),aV (by simp),aV hn]
   have:=Pv (b:=b) (by omega) n n 0 k eQ 0 (by omega) (by omega) (by omega) (zq (by omega))
   rw [show((0:Nat):Int)=(0:Int)from rfl]at this
   rw [this];rfl
 ·rw [bo (by simp [rd,hy]),bo hy];rfl
def Pw{b:List Int}(W:b.length<=50000000000): ∀(m n i k f:Nat) (x:List Int),i+m=n->n<=50000000000->k+m<=b.length->m<f->x.length+m<=60000000000->
  fe (n:Int) f (i:Int) x (rd b k 0)=some (rd b (k+m) 0,x++(b.drop k).take m)
 |0,n,i,k,f+1,x,Y,_,_,_,_=>by
  unfold fe
  rw [aV (by rw [mg];omega)]
  simp
 |m+1,n,i,k,f+1,x,Y,hn,H,s,h4=>by
  obtain⟨e,he⟩:=Fs (b:=b) (k:=k) (by omega)
  unfold fe
  rw [bo (by rw [mg];omega)]
  have e1:gG (rd b k 0).own (rd b k 0).place.at_=some e:=Mf he
  rw [e1,bg]
  unfold oV
  rw [cE (by simp;omega),bg,bg,Ct (by omega)]
  have e2:({rd b k 0 with place:=({(rd b k 0).place with at_:=IntKind.i64.wrap ((rd b k 0).place.at_+1)}:lq)}:ae)=rd b (k+1) 0:=by
   show(⟨⟨IntKind.i64.wrap ((k:Int)+1),0⟩,b⟩:ae)=_
   rw [Ct (by omega)];rfl
  rw [e2,Pw W m n (i+1) (k+1) f (x++[e]) (by omega) hn (by omega) (by omega) (by simp;omega),he,show k+1+m=k+(m+1)from by omega,oB]
  rfl
def G0{b:List Int}{k n:Nat}(y:Int)(hk:k<=b.length)(W:b.length<=900000000):iT (rd b k y) (n:Int)=
  some (if y≠0 then([],rd b k y)else if b.length-k<n then([],rd b k 7)else((b.drop k).take n,rd b (k+n) 0)):=by
 unfold iT m0
 by_cases hy:y=0
 ·subst hy
  rw [aV (by simp [rd]),aV (by rw [mg];omega),xl 0 hk (by omega),bg]
  by_cases hn:b.length-k<n
  ·rw [bo (by rw [mg];omega),aV (by simp),bo hn];rfl
  ·rw [aV (by rw [mg];omega),aV (by simp),aV hn]
   have:=Pw (b:=b) (by omega) n n 0 k eQ [] (by omega) (by omega) (by omega) (zq (by omega)) (by simp;omega)
   rw [show((0:Nat):Int)=(0:Int)from rfl]at this
   rw [this];rfl
 ·rw [bo (by simp [rd,hy]),bo hy];rfl
def bn:List Int->Int
 |[]=>0
 |c::l=>c*256^l.length+bn l
def Du{c:Int}{l:List Int}(h:sF (c::l)):(∃n:Nat,n<256/\c=(n:Int))/\sF l:=⟨h c (.head _),fun x X=>h x (.tail _ X)⟩
def Uf{x c:Int}(X:0<=x)(hx' :x<256^7)(hc:0<=c)(hc' :c<256):Te x c=x*256+c:=by
 unfold Te
 rw [show(2:Int)^(min (Int.toNat (8:Int)) IntKind.u64.bits)=256 from rfl,Bs,Bs,Bs]
 omega
def IN: ∀(l:List Int) (x:Int) (j:Nat),sF l->0<=x->x<256^j->j+l.length<=8->l.foldl Te x=x*256^l.length+bn l
 |[],x,_,_,_,_,_=>by show x=x*256^0+0;rw [Int.pow_zero,Int.mul_one,Int.add_zero]
 |c::l,x,j,h,h0,X,hj=>by
  obtain⟨⟨n,Y,rfl⟩,H⟩:=Du h
  have h7:x<256^7:=by
   have h8:(256:Int)^j<=256^7:=by
    have:(256:Nat)^j<=256^7:=Nat.pow_le_pow_right (by omega) (by simp at hj;omega)
    have h9:((256:Nat):Int)^j<=((256:Nat):Int)^7:=by rw [<-Int.natCast_pow,<-Int.natCast_pow];exact Int.ofNat_le.2 this
    exact h9
   omega
  rw [List.foldl_cons,Uf h0 h7 (by omega) (by omega),IN l (x*256+n) (j+1) H (by omega) (by rw [Int.pow_succ];omega) (by simp at hj ⊢;omega)]
  simp only [bn,iR,Int.pow_succ]
  rw [Int.add_mul,Int.mul_assoc,Int.mul_comm 256 (256^l.length),Int.add_assoc]
def R1{l:List Int}(h:sF l)(hl:l.length<=8):l.foldl Te 0=bn l:=by
 have:=IN l 0 0 h (by omega) (by rw [Int.pow_zero];omega) (by omega)
 rw [Int.zero_mul,Int.zero_add]at this;exact this
def uo{l:List Int}(h:sF l)(k:Nat):sF (l.drop k):=fun x X=>h x (List.mem_of_mem_drop X)
def zQ{l:List Int}(h:sF l)(k:Nat):sF (l.take k):=fun x X=>h x (List.mem_of_mem_take X)
end Go.Proofs.YtdohlidddcgfjaaGreat


/- bO of this claim: H2. -/
set_option linter.all false
namespace Go.Proofs.YtdohlidddcgfjaaGreat
open Go

class GX(ρ:Type) where
 inv:List Int->ρ->Prop
 bad:ρ->Bool
instance rstR:GX aJ:=⟨fun b r=>r.all=b,fun r=>r.bad⟩
instance rstT:GX cy:=⟨fun b t=>t.all=(b.length:Int),fun t=>t.bad⟩
variable{ρ:Type} [GX ρ]
def Ok(b:List Int)(k:Nat)(r:ρ)(o:ae):Prop:=GX.inv b r/\GX.bad r=false/\o=rd b k 0/\k<=b.length
def No(b:List Int)(r:ρ)(o:ae):Prop:=GX.inv b r/\ ∃k y,o=rd b k y/\k<=b.length/\(GX.bad r=true\/y≠0)
abbrev Pr(α:Type):=List Int->Option (α×List Int)
def Jw(b:List Int){α:Type}(q:Option (α×List Int))(x:α)(r:ρ)(o:ae):Prop:=
 match q with
 |some (v,rest)=>x=v/\ ∃k,Ok b k r o/\b.drop k=rest
 |none=>No b r o
structure Rd(b:List Int){α:Type}(f:ρ->ae->Option (α×ρ×ae))(p:Pr α):Prop where
 ok: ∀k r o,Ok b k r o-> ∃x r' o',f r o=some (x,r',o')/\Jw b (p (b.drop k)) x r' o'
 no: ∀r o,No b r o-> ∃x r' o',f r o=some (x,r',o')/\No b r' o'
def dM{α β:Type}(p:Pr α)(q:α->Pr β):Pr β:=fun l=>(p l).bind fun u=>q u.1 u.2
def pu{α β:Type}(h:α->β)(p:Pr α):Pr β:=fun l=>(p l).map fun u=>(h u.1,u.2)
def Rd.congr{b:List Int}{α:Type}{f g:ρ->ae->Option (α×ρ×ae)}{p:Pr α}(h:Rd b f p)(e: ∀r o,g r o=f r o):Rd b g p:=
 ⟨fun k r o hk=>by rw [e];exact h.ok k r o hk,fun r o hn=>by rw [e];exact h.no r o hn⟩
def Rd.bind{b:List Int}{α β:Type}{f:ρ->ae->Option (α×ρ×ae)}{p:Pr α}{g:α->ρ->ae->Option (β×ρ×ae)}{q:α->Pr β}(hf:Rd b f p)(V: ∀x,Rd b (g x) (q x)):
  Rd b (fun r o=>(f r o).bind fun u=>g u.1 u.2.1 u.2.2) (dM p q):=by
 refine⟨fun k r o hk=>?_,fun r o hn=>?_⟩
 ·obtain⟨x,r1,o1,Y,H⟩:=hf.ok k r o hk
  rw [Y,bg]
  unfold Jw at H
  unfold dM
  cases hp:p (b.drop k)with
  |none=>
   rw [hp]at H
   obtain⟨y,r2,o2,s,h4⟩:=(V x).no r1 o1 H
   exact⟨y,r2,o2,s,h4⟩
  |some v=>
   rw [hp]at H
   obtain⟨rfl,k1,s,h4⟩:=H
   obtain⟨y,r2,o2,h5,h6⟩:=(V v.1).ok k1 r1 o1 s
   rw [h4]at h6
   exact⟨y,r2,o2,h5,h6⟩
 ·obtain⟨x,r1,o1,Y,H⟩:=hf.no r o hn
  rw [Y,bg]
  exact(V x).no r1 o1 H
def GZ{b:List Int}{α:Type}(x:α):Rd b (fun(r:ρ) o=>some (x,r,o)) (fun l=>some (x,l)):=
 ⟨fun k r o hk=>⟨x,r,o,rfl,rfl,k,hk,rfl⟩,fun r o hn=>⟨x,r,o,rfl,hn⟩⟩
def Rd.map{b:List Int}{α β:Type}{f:ρ->ae->Option (α×ρ×ae)}{p:Pr α}(h:α->β)(hf:Rd b f p):
  Rd b (fun r o=>(f r o).bind fun u=>some (h u.1,u.2.1,u.2.2)) (pu h p):=by
 have:=hf.bind (g:=fun x r o=>some (h x,r,o)) (q:=fun x l=>some (h x,l)) fun x=>GZ (h x)
 have e:pu h p=dM p (fun x l=>some (h x,l)):=by
  funext l;unfold pu dM;cases p l<;>rfl
 rw [e];exact this
def Fa{b:List Int}{k:Nat}{r:aJ}{o:ae}(h:Ok b k r o):cV r o=some true:=by
 obtain⟨_,H,rfl,_⟩:=h
 have H:r.bad=false:=H
 unfold cV
 rw [H,bo (show(!false)=true from rfl),tQ];rfl
def Fb{b:List Int}{r:aJ}{o:ae}(h:No b r o):cV r o=some false:=by
 obtain⟨_,k,y,rfl,_,H⟩:=h
 have H:r.bad=true\/y≠0:=H
 unfold cV
 cases W:r.bad with
 |true=>simp
 |false=>
  have hy:y≠0:=by rcases H with h|h;rw [W]at h;cases h;exact h
  rw [bo (show(!false)=true from rfl),tQ]
  simp [hy]
def Kl{b:List Int}{k:Nat}{r:cy}{o:ae}(h:Ok b k r o):dR r o=some true:=by
 obtain⟨_,H,rfl,_⟩:=h
 have H:r.bad=false:=H
 unfold dR
 rw [H,bo (show(!false)=true from rfl),tQ];rfl
def Km{b:List Int}{r:cy}{o:ae}(h:No b r o):dR r o=some false:=by
 obtain⟨_,k,y,rfl,_,H⟩:=h
 have H:r.bad=true\/y≠0:=H
 unfold dR
 cases W:r.bad with
 |true=>simp
 |false=>
  have hy:y≠0:=by rcases H with h|h;rw [W]at h;cases h;exact h
  rw [bo (show(!false)=true from rfl),tQ]
  simp [hy]
structure uz(b:List Int){α E:Type}(I:Nat->E->Prop)(f:E->ρ->ae->Option (α×ρ×ae×E))(p:E->Pr (α×E)):Prop where
 ok: ∀j e k r o,j<=70000->I j e->Ok b k r o-> ∃x r' o' e',f e r o=some (x,r',o',e')/\I (j+1) e' /\Jw b (p e (b.drop k)) (x,e') r' o'
 no: ∀j e r o,j<=70000->I j e->No b r o-> ∃x r' o' e',f e r o=some (x,r',o',e')/\I (j+1) e' /\No b r' o'
def pe{α E:Type}(p:E->Pr (α×E)):Nat->E->Pr (List α×E)
 |0,e,l=>some (([],e),l)
 |n+1,e,l=>(p e l).bind fun u=>(pe p n u.1.2 u.2).bind fun v=>some ((u.1.1::v.1.1,v.1.2),v.2)
def NK{b:List Int}{α E:Type}{I:Nat->E->Prop}{f:E->ρ->ae->Option (α×ρ×ae×E)}{p:E->Pr (α×E)}(hf:uz b I f p){okf:ρ->ae->Option Bool}(ok1: ∀k r o,Ok b k r o->okf r o=some true)(ok0: ∀r o,No b r o->okf r o=some false)(N:Int)(hN:N<=65535)
  {L:Nat->List α->Int->ρ->ae->E->Option (List α×ρ×ae×E)}
  (hL: ∀fu out x r o e,L (fu+1) out x r o e=if decide (x<N)=true then(okf r o).bind fun c=>if(!c)=true then some (out,r,o,e)else(f e r o).bind fun u=>(jh out [u.1]).bind fun out2=>L fu out2 (IntKind.i64.wrap (x+1)) u.2.1 u.2.2.1 u.2.2.2 else some (out,r,o,e)):
  ∀(m i fu:Nat) (out:List α) (k:Nat) (r:ρ) (o:ae) (e:E),(i:Int)+m=N->m<fu->out.length<=i->I i e->Ok b k r o->
   ∃ys r' o' e',L fu out i r o e=some (ys,r',o',e')/\Jw b ((pe p m e (b.drop k)).map fun u=>((out++u.1.1,u.1.2),u.2)) (ys,e') r' o' :=by
 intro m
 induction m with
 |zero=>
  intro i fu out k r o e Y H s h4 h5
  cases fu with
  |zero=>omega
  |succ fu=>
   refine⟨out,r,o,e,?_,by simp [pe],k,h5,rfl⟩
   rw [hL,aV (by rw [mg];omega)]
 |succ m ih=>
  intro i fu out k r o e Y H s h4 h5
  cases fu with
  |zero=>omega
  |succ fu=>
   obtain⟨x,r1,o1,e1,g1,g2,g3⟩:=hf.ok i e k r o (by omega) h4 h5
   rw [hL,bo (by rw [mg];omega),ok1 k r o h5,bg,aV (by simp),g1,bg,cE (by simp;omega),bg,Ct (by omega)]
   unfold pe
   unfold Jw at g3
   cases hp:p e (b.drop k)with
   |none=>
    rw [hp]at g3
    cases fu with
    |zero=>omega
    |succ fu=>
     refine⟨out++[x],r1,o1,e1,?_,g3⟩
     rw [hL,ok0 r1 o1 g3]
     split<;>simp
   |some v=>
    obtain⟨⟨v1,v2⟩,v3⟩:=v
    rw [hp]at g3
    obtain⟨hv,k1,g4,g5⟩:=g3
    cases hv
    obtain⟨ys,r2,o2,e2,q1,q2⟩:=ih (i+1) fu (out++[x]) k1 r1 o1 e1 (by omega) (by omega) (by simp;omega) g2 g4
    refine⟨ys,r2,o2,e2,q1,?_⟩
    rw [g5]at q2
    simp only [bg]
    cases hq:pe p m e1 v3 with
    |none=>rw [hq]at q2;exact q2
    |some w=>rw [hq]at q2;simpa using q2
def RQ{b:List Int}{α E:Type}{okf:ρ->ae->Option Bool}(ok0: ∀r o,No b r o->okf r o=some false)(N:Int){L:Nat->List α->Int->ρ->ae->E->Option (List α×ρ×ae×E)}{g:E->ρ->ae->List α->Int->Nat->Option (List α×ρ×ae×E)}
  (hL: ∀fu out x r o e,L (fu+1) out x r o e=if decide (x<N)=true then(okf r o).bind fun c=>if(!c)=true then some (out,r,o,e)else g e r o out x fu else some (out,r,o,e))(fu:Nat)(out:List α)(x:Int)(r:ρ)(o:ae)(e:E)(h:No b r o):
  L (fu+1) out x r o e=some (out,r,o,e):=by
 rw [hL,ok0 r o h]
 split<;>simp
end Go.Proofs.YtdohlidddcgfjaaGreat


/- bO of this claim: H3. -/
set_option linter.all false
namespace Go.Proofs.YtdohlidddcgfjaaGreat
open Go

def IK: ∃n,eQ=n+1:=⟨eQ-1,by have:=zq (n:=0) (by omega);omega⟩
def zk{ρ:Type} [GX ρ]{b:List Int}{α E:Type}{I:Nat->E->Prop}{f:E->ρ->ae->Option (α×ρ×ae×E)}{p:E->Pr (α×E)}(hf:uz b I f p){okf:ρ->ae->Option Bool}(ok1: ∀k r o,Ok b k r o->okf r o=some true)(ok0: ∀r o,No b r o->okf r o=some false)(N:Int)(hN:N<=65535)(e0:E)(h0:I 0 e0)
  {L:Nat->List α->Int->ρ->ae->E->Option (List α×ρ×ae×E)}
  (hL: ∀fu out x r o e,L (fu+1) out x r o e=if decide (x<N)=true then(okf r o).bind fun c=>if(!c)=true then some (out,r,o,e)else(f e r o).bind fun u=>(jh out [u.1]).bind fun out2=>L fu out2 (IntKind.i64.wrap (x+1)) u.2.1 u.2.2.1 u.2.2.2 else some (out,r,o,e)):
  Rd b (fun r o=>(L eQ [] 0 r o e0).bind fun q=>some (q.1,q.2.1,q.2.2.1)) (fun l=>(pe p N.toNat e0 l).map fun u=>(u.1.1,u.2)):=by
 refine⟨fun k r o hk=>?_,fun r o hn=>?_⟩
 ·rcases Int.lt_or_le N 0 with hneg|hpos
  ·obtain⟨n,hn⟩:=IK
   rw [hn,hL,aV (by rw [mg];omega),show N.toNat=0 from by omega]
   exact⟨[],r,o,rfl,rfl,k,hk,rfl⟩
  ·obtain⟨ys,r',o',e',Y,H⟩:=NK hf ok1 ok0 N hN hL N.toNat 0 eQ [] k r o e0 (by omega) (zq (by omega)) (by simp) h0 hk
   rw [show((0:Nat):Int)=(0:Int)from rfl]at Y
   rw [Y]
   refine⟨ys,r',o',rfl,?_⟩
   cases hq:pe p N.toNat e0 (b.drop k)with
   |none=>rw [hq]at H;exact H
   |some w=>
    rw [hq]at H
    obtain⟨s,h4⟩:=H
    exact⟨by have:=congrArg Prod.fst s;simpa using this,h4⟩
 ·obtain⟨n,hn'⟩:=IK
  rw [hn',RQ ok0 N (g:=fun e r o out x fu=>(f e r o).bind fun u=>(jh out [u.1]).bind fun out2=>L fu out2 (IntKind.i64.wrap (x+1)) u.2.1 u.2.2.1 u.2.2.2) hL n [] 0 r o e0 hn]
  exact⟨[],r,o,rfl,hn⟩
def pw(n:Nat):Pr Int:=fun l=>if l.length<n then none else some (bn (l.take n),l.drop n)
def wR{ρ:Type}(n:Nat)(r:ρ)(o:ae):Option (Int×ρ×ae):=(cd o (n:Int)).map fun q=>(q.1,r,q.2)
section
variable{b:List Int}(W:b.length<=900000000)(hby:sF b)
include W hby
def Hx{ρ:Type} [GX ρ](n:Nat)(hn:n<=8):Rd b (wR (ρ:=ρ) n) (pw n):=by
 refine⟨fun k r o ⟨Y,H,s,h4⟩=>?_,fun r o ⟨Y,k,y,s,h4,h5⟩=>?_⟩
 ·subst s
  unfold wR pw
  rw [EJ 0 h4 W,aV (by simp),Bt]
  by_cases h:b.length-k<n
  ·rw [bo h,bo h]
   exact⟨0,r,rd b k 7,rfl,Y,k,7,rfl,h4,.inr (by decide)⟩
  ·rw [aV h,aV h]
   refine⟨_,r,_,rfl,R1 (zQ (uo hby k) n) (by simp;omega),k+n,⟨Y,H,rfl,by omega⟩,by rw [rP]⟩
 ·subst s
  unfold wR
  rw [EJ y h4 W]
  split
  ·exact⟨_,_,_,rfl,Y,k,y,rfl,h4,h5⟩
  ·rename_i hy
   have hbad:GX.bad r=true:=h5.resolve_right hy
   split
   ·exact⟨_,_,_,rfl,Y,k,7,rfl,h4,.inl hbad⟩
   ·exact⟨_,_,_,rfl,Y,k+n,0,rfl,by omega,.inl hbad⟩
end
def h8(x:Int):Int:=IntKind.u8.wrap x
def p8:Pr Int:=pu (fun x=>IntKind.i64.wrap (IntKind.u8.wrap x)) (pw 1)
def lg(r:aJ)(o:ae):Option (Int×aJ×ae):=(aM r o).map fun q=>(q.1,r,q.2)
section
variable{b:List Int}(W:b.length<=900000000)(hby:sF b)
include W hby
def nm:Rd b lg p8:=((Hx W hby 1 (by omega)).map _).congr fun r o=>by
 unfold lg wR aM cb
 rw [show((1:Nat):Int)=1 from rfl]
 cases cd o 1<;>rfl
def MY{ρ:Type}(r:ρ)(o:ae):Option (Int×ρ×ae):=(gW o).map fun q=>(IntKind.i64.wrap q.1,r,q.2)
def Y9:Pr Int:=pu (fun x=>IntKind.i64.wrap (IntKind.u16.wrap x)) (pw 2)
def OV{ρ:Type} [GX ρ]:Rd b (MY (ρ:=ρ)) Y9:=((Hx W hby 2 (by omega)).map _).congr fun r o=>by
 unfold MY wR gW
 rw [show((2:Nat):Int)=2 from rfl]
 cases cd o 2<;>rfl
def OU{ρ:Type}(r:ρ)(o:ae):Option (Int×ρ×ae):=(ka o).map fun q=>(q.1,r,q.2)
def Y8:Pr Int:=pu IntKind.u32.wrap (pw 4)
def OT{ρ:Type} [GX ρ]:Rd b (OU (ρ:=ρ)) Y8:=((Hx W hby 4 (by omega)).map _).congr fun r o=>by
 unfold OU wR ka
 rw [show((4:Nat):Int)=4 from rfl]
 cases cd o 4<;>rfl
def FZ{ρ:Type}(r:ρ)(o:ae):Option (Int×ρ×ae):=(dl o).map fun q=>(q.1,r,q.2)
def FY{ρ:Type} [GX ρ]:Rd b (FZ (ρ:=ρ)) (pw 8):=(Hx W hby 8 (by omega)).congr fun r o=>by
 unfold FZ wR dl
 rw [show((8:Nat):Int)=8 from rfl]
 cases cd o 8<;>rfl
def Bb:Pr Bool:=fun l=>(p8 l).bind fun u=>if 1<u.1 then none else some (u.1==1,u.2)
def BQ:Rd b eN Bb:=by
 have hs:=nm W hby
 have e: ∀r o,eN r o=(cb o).bind fun r1=>some ((r1.1==(1:Int)),({r with bad:=(r.bad||(decide ((1:Int)<r1.1)))}:aJ),r1.2):=fun _ _=>rfl
 have u8: ∀r o x r' o',lg r o=some (x,r',o')-> ∃c,cb o=some (c,o')/\r' =r/\x=IntKind.i64.wrap c/\IntKind.u8.wrap c=c:=by
  intro r o x r' o' h
  unfold lg aM cb at h
  unfold cb
  cases hq:cd o 1 with
  |none=>rw [hq]at h;cases h
  |some q=>
   rw [hq]at h
   cases h
   exact⟨_,rfl,rfl,rfl,by rw [z7,z7];omega⟩
 have wc: ∀c,IntKind.u8.wrap c=c->IntKind.i64.wrap c=c:=fun c h=>by rw [z7]at h;rw [qd];omega
 refine⟨fun k r o hk=>?_,fun r o hn=>?_⟩
 ·obtain⟨x,r1,o1,Y,H⟩:=hs.ok k r o hk
  obtain⟨c,s,rfl,rfl,h4⟩:=u8 r o x r1 o1 Y
  rw [e,s,bg]
  rw [wc c h4]at H
  refine⟨_,_,_,rfl,?_⟩
  unfold Bb
  unfold Jw at H
  cases hp:p8 (b.drop k)with
  |none=>
   rw [hp]at H
   obtain⟨g1,k',y,g2,g3,g4⟩:=H
   exact⟨g1,k',y,g2,g3,g4.imp (fun(h:r1.bad=true)=>show(r1.bad||_)=true by rw [h];rfl) id⟩
  |some v=>
   rw [hp]at H
   obtain⟨rfl,k',⟨g1,g2,g3,g4⟩,g5⟩:=H
   by_cases h1c:1<v.1
   ·simp only [bg,bo h1c]
    exact⟨g1,k',0,g3,g4,.inl (show(r1.bad||decide (1<v.1))=true by simp [h1c])⟩
   ·simp only [bg,aV h1c]
    exact⟨rfl,k',⟨g1,(show(r1.bad||decide (1<v.1))=false by rw [show r1.bad=false from g2];simp [h1c]),g3,g4⟩,g5⟩
 ·obtain⟨x,r1,o1,Y,H⟩:=hs.no r o hn
  obtain⟨c,s,rfl,rfl,h4⟩:=u8 r o x r1 o1 Y
  rw [e,s,bg]
  obtain⟨g1,k',y,g2,g3,g4⟩:=H
  exact⟨_,_,_,rfl,g1,k',y,g2,g3,g4.imp (fun(h:r1.bad=true)=>show(r1.bad||_)=true by rw [h];rfl) id⟩
end
def Rd.toE{ρ:Type} [GX ρ]{b:List Int}{α:Type}{f:ρ->ae->Option (α×ρ×ae)}{p:Pr α}(h:Rd b f p):uz b (fun _ _=>True) (fun(_:Unit) r o=>(f r o).map fun q=>(q.1,q.2.1,q.2.2,())) (fun _ l=>(p l).map fun u=>((u.1,()),u.2)):=by
 refine⟨fun j e k r o _ _ hk=>?_,fun j e r o _ _ hn=>?_⟩
 ·obtain⟨x,r1,o1,Y,H⟩:=h.ok k r o hk
  refine⟨x,r1,o1,(),by rw [Y];rfl,trivial,?_⟩
  unfold Jw at H ⊢
  cases hp:p (b.drop k)with
  |none=>rw [hp]at H;exact H
  |some v=>rw [hp]at H;exact⟨by rw [H.1],H.2⟩
 ·obtain⟨x,r1,o1,Y,H⟩:=h.no r o hn
  exact⟨x,r1,o1,(),by rw [Y];rfl,trivial,H⟩
def pl{α:Type}(p:Pr α):Nat->Pr (List α)
 |0,l=>some ([],l)
 |n+1,l=>(p l).bind fun u=>(pl p n u.2).bind fun v=>some (u.1::v.1,v.2)
def BM{α:Type}(p:Pr α): ∀(n:Nat) (l:List Int),(pe (fun(_:Unit) l=>(p l).map fun u=>((u.1,()),u.2)) n () l).map (fun u=>(u.1.1,u.2))=pl p n l
 |0,_=>rfl
 |n+1,l=>by
  unfold pe pl
  cases p l with
  |none=>rfl
  |some u=>
   simp only [oD,bg]
   rw [<-BM p n u.2]
   cases pe (fun(_:Unit) l=>(p l).map fun u=>((u.1,()),u.2)) n () u.2<;>rfl
end Go.Proofs.YtdohlidddcgfjaaGreat


/- bO of this claim: H4. -/
set_option linter.all false
namespace Go.Proofs.YtdohlidddcgfjaaGreat
open Go

variable{ρ:Type} [GX ρ]
def OS(r:ρ)(o:ae):Option (Int×ρ×ae):=(cb o).map fun q=>(IntKind.i64.wrap q.1,r,q.2)
def Pc(n:Nat)(r:ρ)(o:ae):Option (List Int×ρ×ae):=(iT o (n:Int)).map fun q=>(q.1,r,q.2)
def Pg(n:Nat):Pr (List Int):=fun l=>if l.length<n then none else some (l.take n,l.drop n)
def uf(c:Bool)(t:cy)(o:ae):Option (Unit×cy×ae):=(cA t o c).map fun t' =>((),t',o)
def xJ(c:Bool):Pr Unit:=fun l=>if c then some ((),l)else none
def A2{α:Type}(okf:ρ->ae->Option Bool)(x0:α)(f:ρ->ae->Option (α×ρ×ae))(r:ρ)(o:ae):Option (α×ρ×ae):=(okf r o).bind fun c=>if c then f r o else some (x0,r,o)
section
variable{b:List Int}(W:b.length<=900000000)(hby:sF b)
include W hby
def LF:Rd b (OS (ρ:=ρ)) p8:=((Hx W hby 1 (by omega)).map _).congr fun r o=>by
 unfold OS wR cb
 rw [show((1:Nat):Int)=1 from rfl]
 cases cd o 1<;>rfl
omit hby in
def Ut(n:Nat):Rd b (Pc (ρ:=ρ) n) (Pg n):=by
 refine⟨fun k r o ⟨Y,H,s,h4⟩=>?_,fun r o ⟨Y,k,y,s,h4,h5⟩=>?_⟩
 ·subst s
  unfold Pc Pg
  rw [G0 0 h4 W,aV (by simp),Bt]
  by_cases h:b.length-k<n
  ·rw [bo h,bo h]
   exact⟨[],r,rd b k 7,rfl,Y,k,7,rfl,h4,.inr (by decide)⟩
  ·rw [aV h,aV h]
   exact⟨_,r,_,rfl,rfl,k+n,⟨Y,H,rfl,by omega⟩,by rw [rP]⟩
 ·subst s
  unfold Pc
  rw [G0 y h4 W]
  split
  ·exact⟨_,_,_,rfl,Y,k,y,rfl,h4,h5⟩
  ·rename_i hy
   have hbad:GX.bad r=true:=h5.resolve_right hy
   split
   ·exact⟨_,_,_,rfl,Y,k,7,rfl,h4,.inl hbad⟩
   ·exact⟨_,_,_,rfl,Y,k+n,0,rfl,by omega,.inl hbad⟩
end
def zh{b:List Int}(c:Bool):Rd b (uf c) (xJ c):=by
 refine⟨fun k r o ⟨Y,H,s,h4⟩=>?_,fun r o ⟨Y,k,y,s,h4,h5⟩=>?_⟩
 ·subst s
  have H:r.bad=false:=H
  unfold uf cA xJ
  rw [H,aV (by simp),tQ]
  cases c with
  |true=>exact⟨(),_,_,rfl,rfl,k,⟨Y,rfl,rfl,h4⟩,rfl⟩
  |false=>exact⟨(),_,_,rfl,Y,k,0,rfl,h4,.inl rfl⟩
 ·subst s
  have h5:r.bad=true\/y≠0:=h5
  unfold uf cA
  cases W:r.bad with
  |true=>exact⟨(),_,_,rfl,Y,k,y,rfl,h4,.inl rfl⟩
  |false=>
   have hy:y≠0:=by rcases h5 with h|h;rw [W]at h;cases h;exact h
   rw [aV (by simp),tQ]
   exact⟨(),_,_,rfl,Y,k,y,rfl,h4,.inr hy⟩
def GY{b:List Int}{α:Type}{okf:ρ->ae->Option Bool}(ok1: ∀k r o,Ok b k r o->okf r o=some true)(ok0: ∀r o,No b r o->okf r o=some false)(x0:α){f:ρ->ae->Option (α×ρ×ae)}{p:Pr α}(hf:Rd b f p):Rd b (A2 okf x0 f) p:=by
 refine⟨fun k r o hk=>?_,fun r o hn=>?_⟩
 ·unfold A2
  rw [ok1 k r o hk]
  exact hf.ok k r o hk
 ·unfold A2
  rw [ok0 r o hn]
  exact⟨x0,r,o,rfl,hn⟩
def Dn(v:am):cy->ae->Option (am×cy×ae):=fun t o=>(uf (gr v) t o).bind fun u=>some (v,u.2.1,u.2.2)
def CT(v:am):Pr am:=dM (xJ (gr v)) fun _ l=>some (v,l)
def zK{b:List Int}(v:am):Rd b (Dn v) (CT v):=(zh _).bind (g:=fun _ t o=>some (v,t,o)) fun _=>GZ v
def v0:am:=⟨0,0,0,[]⟩
def i64(x:Int):Int:=IntKind.i64.wrap x
def dN(c x:Int):cy->ae->Option (am×cy×ae):=Dn ⟨c,x,0,[]⟩
def Uy(c:Int)(t:cy)(o:ae):Option (am×cy×ae):=(OS t o).bind fun u=>dN c u.1 u.2.1 u.2.2
def UO(c:Int)(t:cy)(o:ae):Option (am×cy×ae):=(FZ t o).bind fun u=>dN c (i64 u.1) u.2.1 u.2.2
def dS(c:Int)(h3:List Int):cy->ae->Option (am×cy×ae):=Dn ⟨c,0,0,lu h3⟩
def Rv(c u:Int)(t:cy)(o:ae):Option (am×cy×ae):=(A2 dR [] (Pc u.toNat) t o).bind fun h3=>dS c h3.1 h3.2.1 h3.2.2
def Ru(c u:Int)(t:cy)(o:ae):Option (am×cy×ae):=(uf (decide (u<=40)) t o).bind fun w=>Rv c u w.2.1 w.2.2
def Uk(c:Int)(t:cy)(o:ae):Option (am×cy×ae):=(OS t o).bind fun u=>Ru c u.1 u.2.1 u.2.2
def dU(c u w:Int):cy->ae->Option (am×cy×ae):=Dn ⟨c,i64 u,w,[]⟩
def Rs(c u:Int)(t:cy)(o:ae):Option (am×cy×ae):=(FZ t o).bind fun w=>dU c u w.1 w.2.1 w.2.2
def Um(c:Int)(t:cy)(o:ae):Option (am×cy×ae):=(FZ t o).bind fun u=>Rs c u.1 u.2.1 u.2.2
def MF(c:Int):cy->ae->Option (am×cy×ae):=if c==1 then Uy c else if c==2 then UO c else if c==3 then Uk c else if c==4 then Um c else Dn ⟨c,0,0,[]⟩
def Wx(c:Int):Pr am:=dM p8 fun u=>CT ⟨c,u,0,[]⟩
def Wy(c:Int):Pr am:=dM (pw 8) fun u=>CT ⟨c,i64 u,0,[]⟩
def Tl(c u:Int):Pr am:=dM (Pg u.toNat) fun h3=>CT ⟨c,0,0,lu h3⟩
def Tk(c u:Int):Pr am:=dM (xJ (decide (u<=40))) fun _=>Tl c u
def Ww(c:Int):Pr am:=dM p8 (Tk c)
def Tj(c u:Int):Pr am:=dM (pw 8) fun w=>CT ⟨c,i64 u,w,[]⟩
def Wv(c:Int):Pr am:=dM (pw 8) (Tj c)
def E2(c:Int):Pr am:=if c==1 then Wx c else if c==2 then Wy c else if c==3 then Ww c else if c==4 then Wv c else CT ⟨c,0,0,[]⟩
section
variable{b:List Int}(W:b.length<=900000000)(hby:sF b)
include W hby
def SY(c:Int):Rd b (MF c) (E2 c):=by
 have a1:Rd b (Uy c) (Wx c):=Rd.bind (g:=fun u=>dN c u) (LF W hby) fun u=>zK _
 have a2:Rd b (UO c) (Wy c):=Rd.bind (g:=fun u=>dN c (i64 u)) (FY W hby) fun u=>zK _
 have a3: ∀u,Rd b (Rv c u) (Tl c u):=fun u=>Rd.bind (g:=fun h3=>dS c h3) (GY (fun _ _ _=>Kl) (fun _ _=>Km) [] (Ut W _)) fun h3=>zK _
 have a4: ∀u,Rd b (Ru c u) (Tk c u):=fun u=>Rd.bind (g:=fun _=>Rv c u) (zh _) fun _=>a3 u
 have a5:Rd b (Uk c) (Ww c):=Rd.bind (g:=Ru c) (LF W hby) a4
 have a6: ∀u,Rd b (Rs c u) (Tj c u):=fun u=>Rd.bind (g:=fun w=>dU c u w) (FY W hby) fun w=>zK _
 have a7:Rd b (Um c) (Wv c):=Rd.bind (g:=Rs c) (FY W hby) a6
 unfold MF E2
 split
 ·exact a1
 split
 ·exact a2
 split
 ·exact a5
 split
 ·exact a7
 ·exact zK _
end
def pv:Pr am:=dM p8 fun c=>dM (xJ (decide (c<=4))) fun _=>E2 c
def LE(c:Int):cy->ae->Option (am×cy×ae):=A2 dR ⟨c,0,0,[]⟩ (MF c)
def LD(c:Int)(t:cy)(o:ae):Option (am×cy×ae):=(uf (decide (c<=4)) t o).bind fun u=>LE c u.2.1 u.2.2
def Uj(t:cy)(o:ae):Option (am×cy×ae):=(OS t o).bind fun u=>LD u.1 u.2.1 u.2.2
def ZC(x:Bool):((if x then(0:Int)else 120)==0)=x:=by cases x<;>rfl
def xg(v:am)(t:cy)(o:ae):((gR v).bind fun r=>(cA t o (r==(0:Int))).bind fun t' =>some (v,t',o))=Dn v t o:=by
 rw [pD,bg,ZC]
 unfold Dn uf
 cases cA t o (gr v)<;>rfl
def We{o:ae}{q:Int×ae}(h:cb o=some q):0<=IntKind.i64.wrap q.1:=by
 unfold cb at h
 cases hw:cd o 1 with
 |none=>rw [hw]at h;cases h
 |some w=>
  rw [hw]at h
  cases h
  rw [z7,qd]
  omega
def OO(t:cy)(o:ae):jD t o=Uj t o:=by
 unfold jD Uj OS
 cases Y:cb o with
 |none=>rfl
 |some r=>
  simp only [oD,bg]
  unfold LD uf
  cases H:cA t r.2 (decide (IntKind.i64.wrap r.1<=4))with
  |none=>rfl
  |some t1=>
   simp only [oD,bg]
   unfold LE A2
   cases s:dR t1 r.2 with
   |none=>rfl
   |some c=>
    cases c with
    |false=>rfl
    |true=>
     simp only [bg,rk,nj,kQ,jl]
     unfold MF
     generalize IntKind.i64.wrap r.1=k
     by_cases e1:(k==1)=true
     ·rw [bo e1,bo e1]
      unfold Uy OS
      cases cb r.2 with
      |none=>rfl
      |some q=>exact xg _ _ _
     rw [aV e1,aV e1]
     by_cases e2:(k==2)=true
     ·rw [bo e2,bo e2]
      unfold UO FZ
      cases dl r.2 with
      |none=>rfl
      |some q=>exact xg _ _ _
     rw [aV e2,aV e2]
     by_cases e3:(k==3)=true
     ·rw [bo e3,bo e3]
      unfold Uk OS
      cases hq:cb r.2 with
      |none=>rfl
      |some q=>
       simp only [oD,bg]
       unfold Ru uf
       cases cA t1 q.2 (decide (IntKind.i64.wrap q.1<=40))with
       |none=>rfl
       |some t2=>
        simp only [oD,bg]
        unfold Rv A2
        cases dR t2 q.2 with
        |none=>rfl
        |some c=>
         cases c with
         |false=>exact xg _ _ _
         |true=>
          simp only [bg,jl]
          unfold Pc
          rw [Int.toNat_of_nonneg (We hq)]
          cases iT q.2 (IntKind.i64.wrap q.1)with
          |none=>rfl
          |some h3=>exact xg _ _ _
     rw [aV e3,aV e3]
     by_cases e4:(k==4)=true
     ·rw [bo e4,bo e4]
      unfold Um FZ
      cases dl r.2 with
      |none=>rfl
      |some q=>
       simp only [oD,bg]
       unfold Rs FZ
       cases dl q.2 with
       |none=>rfl
       |some q2=>exact xg _ _ _
     rw [aV e4,aV e4]
     exact xg _ _ _
def Hy{b:List Int}(W:b.length<=900000000)(hby:sF b):Rd b jD pv:=by
 have a1: ∀c,Rd b (LE c) (E2 c):=fun c=>GY (fun _ _ _=>Kl) (fun _ _=>Km) _ (SY W hby c)
 have a2: ∀c,Rd b (LD c) (dM (xJ (decide (c<=4))) fun _=>E2 c):=fun c=>Rd.bind (g:=fun _=>LE c) (zh _) fun _=>a1 c
 have a3:Rd b Uj pv:=Rd.bind (g:=LD) (LF W hby) a2
 exact a3.congr OO
end Go.Proofs.YtdohlidddcgfjaaGreat


/- bO of this claim: H5. -/
set_option linter.all false
namespace Go.Proofs.YtdohlidddcgfjaaGreat
open Go

def K7{α:Type}{xs ys:List α}(h:xs.length=ys.length):ol xs ys=ys:=by
 unfold ol
 rw [h,tz (dY _),Nat.min_self,<-h,FN (dY _),tv]
def MH{b:List Int}(W:b.length<=900000000):sk b=some (rd b 0 0):=by
 unfold sk
 have h:uD (b.length:Int) (0:Int)=some (List.replicate b.length 0):=by
  unfold uD
  rw [bo (by omega)];simp
 rw [h,bg,bg,K7 (by simp)]
 rfl
def rj:ae:=⟨⟨0,0⟩,[]⟩
def xQ{b:List Int}(W:b.length<=900000000):sx b=some (⟨rj,(b.length:Int),false⟩,rd b 0 0):=by
 unfold sx
 rw [MH W];rfl
def Eo{b:List Int}(W:b.length<=900000000):uS b=some (⟨rj,b,false⟩,rd b 0 0):=by
 unfold uS
 rw [MH W];rfl
def Je{α:Type}(l:List Int)(p:Pr α)(q:α×Int×Int):Prop:=
 match p l with
 |some (v,rest)=> ∃k:Nat,k<=l.length/\q=(v,(k:Int),0)/\rest=l.drop k
 |none=>q.2.2≠0
def M3{l:List Int}(hl:l.length<=900000000){v:am}{t:cy}{o:ae}(h:Jw l (pv l) v t o): ∃q,kD t o v=some q/\Je l pv q:=by
 unfold Jw at h
 unfold Je kD
 cases hp:pv l with
 |none=>
  rw [hp]at h
  obtain⟨_,k,y,rfl,H,s⟩:=h
  have s:t.bad=true\/y≠0:=s
  cases W:t.bad with
  |true=>exact⟨_,rfl,show(160:Int)≠0 by decide⟩
  |false=>
   have hy:y≠0:=by rcases s with h|h;rw [W]at h;cases h;exact h
   rw [aV (by simp),tQ,bg,bo (by simpa using hy),bg]
   exact⟨_,rfl,hy⟩
 |some w=>
  rw [hp]at h
  obtain⟨rfl,k,⟨g1,g2,rfl,g4⟩,g5⟩:=h
  have g1:t.all=(l.length:Int):=g1
  have g2:t.bad=false:=g2
  rw [g2,aV (by simp),tQ,bg,aV (by simp),xl 0 g4 (by omega),bg]
  refine⟨_,rfl,k,g4,?_,g5.symm⟩
  rw [g1,qd]
  have:(l.length:Int)-((l.length-k:Nat):Int)=(k:Int):=by omega
  rw [this]
  have:((k:Int)+9223372036854775808)%18446744073709551616-9223372036854775808=(k:Int):=by omega
  simp [this]
def wL{l:List Int}(hl:l.length<=900000000)(hby:sF l): ∃q,oP l=some q/\Je l pv q:=by
 unfold oP
 rw [xQ hl,bg]
 obtain⟨v,t,o,Y,H⟩:=(Hy hl hby).ok 0 ⟨rj,(l.length:Int),false⟩ (rd l 0 0) ⟨rfl,rfl,rfl,by omega⟩
 rw [Y,bg]
 obtain⟨q,s,h4⟩:=M3 hl H
 rw [s]
 exact⟨q,rfl,h4⟩
def BI{b:List Int}(W:b.length<=900000000){r:aJ}(h:r.all=b){k:Nat}(y:Int)(hk:k<=b.length):il r (rd b k y)=some (b.drop k):=by
 unfold il
 rw [xl y hk (by omega),bg,h]
 have e:IntKind.i64.wrap ((b.length:Int)-((b.length-k:Nat):Int))=(k:Int):=by rw [qd];omega
 rw [e]
 have:dK b (k:Int) (b.length:Int)=some (b.drop k):=by
  rw [rF hk (dY _),B1]
 rw [this];rfl
def BG{b:List Int}(W:b.length<=900000000){α:Type}{p:Pr α}{q:α×Int×Int}{k:Nat}(hq:Je (b.drop k) p q):
  (∀r:aJ,Ok b k r (rd b k 0)-> ∃r' o',fD r (rd b k 0) q.2.1 q.2.2=some (r',o')/\Jw b (p (b.drop k)) q.1 r' o')/\
  (∀(r:aJ) (y:Int),k<=b.length->No b r (rd b k y)->(r.bad=true\/y≠0)-> ∃r' o',fD r (rd b k y) q.2.1 q.2.2=some (r',o')/\No b r' o'):=by
 unfold Je at hq
 constructor
 ·intro r ⟨Y,H,_,h4⟩
  unfold fD Jw
  cases hp:p (b.drop k)with
  |none=>
   rw [hp]at hq
   rw [bo (by simpa using hq)]
   exact⟨_,_,rfl,Y,k,0,rfl,h4,.inl rfl⟩
  |some w=>
   rw [hp]at hq
   obtain⟨j,hj,rfl,hr⟩:=hq
   rw [Bt]at hj
   rw [aV (by simp),G0 0 h4 W,aV (by simp),aV (by omega)]
   exact⟨_,_,rfl,rfl,k+j,⟨Y,H,rfl,by omega⟩,by rw [hr,rP]⟩
 ·intro r y hk hn hy
  unfold fD
  split
  ·exact⟨_,_,rfl,hn.1,k,y,rfl,hk,.inl rfl⟩
  ·rename_i he
   cases hp:p (b.drop k)with
   |none=>rw [hp]at hq;exact absurd hq (by simpa using he)
   |some w=>
    rw [hp]at hq
    obtain⟨j,hj,rfl,hr⟩:=hq
    rw [Bt]at hj
    rw [G0 y hk W]
    split
    ·exact⟨_,_,rfl,hn.1,k,y,rfl,hk,hy⟩
    ·rename_i h0
     have hbad:r.bad=true:=hy.resolve_right h0
     split
     ·exact⟨_,_,rfl,hn.1,k,7,rfl,hk,.inl hbad⟩
     ·exact⟨_,_,rfl,hn.1,k+j,0,rfl,by omega,.inl hbad⟩
def NV{b:List Int}(W:b.length<=900000000)(hby:sF b):Rd b iU pv:=by
 refine⟨fun k r o hk=>?_,fun r o hn=>?_⟩
 ·obtain⟨Y,H,rfl,h4⟩:=hk
  obtain⟨q,g1,g2⟩:=wL (l:=b.drop k) (by simp;omega) (uo hby k)
  obtain⟨r',o',g3,g4⟩:=(BG W g2).1 r ⟨Y,H,rfl,h4⟩
  unfold iU
  rw [BI W Y 0 h4,bg,g1,bg,g3]
  exact⟨_,_,_,rfl,g4⟩
 ·have hn' :=hn
  obtain⟨Y,k,y,rfl,h4,h5⟩:=hn
  obtain⟨q,g1,g2⟩:=wL (l:=b.drop k) (by simp;omega) (uo hby k)
  obtain⟨r',o',g3,g4⟩:=(BG W g2).2 r y h4 hn' h5
  unfold iU
  rw [BI W Y y h4,bg,g1,bg,g3]
  exact⟨_,_,_,rfl,g4⟩
end Go.Proofs.YtdohlidddcgfjaaGreat


/- bO of this claim: H6. -/
set_option linter.all false
namespace Go.Proofs.YtdohlidddcgfjaaGreat
open Go

def ut{ρ:Type} [GX ρ]{b:List Int}{α β:Type}{f:ρ->ae->Option (α×ρ×ae)}{p:Pr α}{g:α->ρ->ae->Option (β×ρ×ae)}{q:α->Pr β}(P:α->Prop)(hP: ∀r o x r' o',f r o=some (x,r',o')->P x)(hf:Rd b f p)(V: ∀x,P x->Rd b (g x) (q x)):
  Rd b (fun r o=>(f r o).bind fun u=>g u.1 u.2.1 u.2.2) (dM p q):=by
 refine⟨fun k r o hk=>?_,fun r o hn=>?_⟩
 ·obtain⟨x,r1,o1,Y,H⟩:=hf.ok k r o hk
  have X:=hP _ _ _ _ _ Y
  rw [Y,bg]
  unfold Jw at H
  unfold dM
  cases hp:p (b.drop k)with
  |none=>
   rw [hp]at H
   obtain⟨y,r2,o2,s,h4⟩:=(V x X).no r1 o1 H
   exact⟨y,r2,o2,s,h4⟩
  |some v=>
   rw [hp]at H
   obtain⟨rfl,k1,s,h4⟩:=H
   obtain⟨y,r2,o2,h5,h6⟩:=(V v.1 X).ok k1 r1 o1 s
   rw [h4]at h6
   exact⟨y,r2,o2,h5,h6⟩
 ·obtain⟨x,r1,o1,Y,H⟩:=hf.no r o hn
  rw [Y,bg]
  exact(V x (hP _ _ _ _ _ Y)).no r1 o1 H
def om(x:Int):Prop:=0<=x/\x<=255
def yb{r r' :aJ}{o o' :ae}{x:Int}(h:lg r o=some (x,r',o')):om x:=by
 unfold lg aM at h
 cases hq:cb o with
 |none=>rw [hq]at h;cases h
 |some q=>
  rw [hq]at h
  cases h
  unfold cb at hq
  cases hw:cd o 1 with
  |none=>rw [hw]at hq;cases hq
  |some w=>
   rw [hw]at hq
   cases hq
   unfold om
   rw [z7,qd]
   omega
def LZ(N:Int)(r:aJ)(o:ae):Option (List Int×aJ×ae):=(k9 r o N).map fun q=>(q.1,r,q.2)
def NF(r:aJ)(o:ae):Option (List Int×aJ×ae):=(gZ r o).map fun q=>(q.1,r,q.2)
def LS(N:Int):Pr (List Int):=pl p8 N.toNat
def Ns:Pr (List Int):=dM p8 LS
section
variable{b:List Int}(W:b.length<=900000000)(hby:sF b)
include W hby
def RO(N:Int)(hN:N<=65535):Rd b (LZ N) (LS N):=by
 have h:=zk (nm W hby).toE (fun _ _ _=>Fa) (fun _ _=>Fb) N hN () trivial (L:=fun fu out x r o _=>(g9 r N fu out x o).map fun q=>(q.1,r,q.2,())) (by
  intro fu out x r o e
  cases e
  simp only [g9]
  by_cases X:decide (x<N)=true
  ·simp only [X,jl]
   cases cV r o with
   |none=>rfl
   |some c=>
    cases c with
    |false=>rfl
    |true=>
     unfold lg
     simp only [bg,rk,nj,kQ]
     cases aM r o with
     |none=>rfl
     |some q=>
      simp only [bg,oD]
      cases jh out [q.1]<;>rfl
  ·simp only [X];rfl)
 have e:(fun l=>(pe (fun(_:Unit) l=>(p8 l).map fun u=>((u.1,()),u.2)) N.toNat () l).map fun u=>(u.1.1,u.2))=LS N:=funext fun l=>BM p8 N.toNat l
 rw [e]at h
 refine h.congr fun r o=>?_
 unfold LZ k9
 cases g9 r N eQ [] 0 o<;>rfl
def Pt:Rd b NF Ns:=by
 have:=ut (g:=LZ) (q:=LS) om (fun _ _ _ _ _=>yb) (nm W hby) fun x X=>RO W hby x (by unfold om at X;omega)
 refine this.congr fun r o=>?_
 unfold NF gZ lg LZ
 cases aM r o with
 |none=>rfl
 |some q=>
  simp only [bg,oD]
  cases k9 r q.2 q.1<;>rfl
end
def BF(t:List Int)(D:t.length<=900000000):mH t=some (match t.getLast? with|none=>(-1,t)|some x=>(x,t.dropLast)):=by
 unfold mH
 rcases List.eq_nil_or_concat t with rfl|⟨l,x,rfl⟩
 ·rfl
 ·simp only [List.concat_eq_append]at*
  rw [aV (by simp;omega)]
  have e:IntKind.i64.wrap ((((l++[x]).length:Nat):Int)-1)=(l.length:Int):=by
   rw [qd];simp at D ⊢;omega
  rw [e,eK,vz (dY _)]
  simp only [vn,EE,bg]
  rw [show(0:Int)=((0:Nat):Int)from rfl,rF (oC _) (by simp),bg]
  simp
def Eb:Nat->List Int->Option (Int×Int×List Int)
 |0,t=>some (-1,-1,t)
 |1,t=>match t.getLast? with|none=>none|some x=>some (x,-1,t.dropLast)
 |_+2,t=>match t.getLast? with|none=>none|some y=>match t.dropLast.getLast? with|none=>none|some x=>some (x,y,t.dropLast.dropLast)
end Go.Proofs.YtdohlidddcgfjaaGreat


/- bO of this claim: H7. -/
set_option linter.all false
namespace Go.Proofs.YtdohlidddcgfjaaGreat
open Go

section
variable{ρ:Type} [GX ρ]{b:List Int}{α β E:Type}{I:Nat->E->Prop}
def uz.congr{f g:E->ρ->ae->Option (α×ρ×ae×E)}{p:E->Pr (α×E)}(h:uz b I f p)(e: ∀j e r o,I j e->g e r o=f e r o):uz b I g p:=
 ⟨fun j x k r o hj hi hk=>by rw [e j x r o hi];exact h.ok j x k r o hj hi hk,fun j x r o hj hi hn=>by rw [e j x r o hi];exact h.no j x r o hj hi hn⟩
def ne{f:ρ->ae->Option (α×ρ×ae)}{p:Pr α}{g:α->E->ρ->ae->Option (β×ρ×ae×E)}{q:α->E->Pr (β×E)}(hf:Rd b f p)(V: ∀x,uz b I (g x) (q x)):
  uz b I (fun e r o=>(f r o).bind fun u=>g u.1 e u.2.1 u.2.2) (fun e=>dM p (fun x=>q x e)):=by
 refine⟨fun j e k r o hj hi hk=>?_,fun j e r o hj hi hn=>?_⟩
 ·obtain⟨x,r1,o1,Y,H⟩:=hf.ok k r o hk
  rw [Y,bg]
  unfold Jw at H
  unfold dM
  cases hp:p (b.drop k)with
  |none=>
   rw [hp]at H
   obtain⟨y,r2,o2,e2,s,h3',h4⟩:=(V x).no j e r1 o1 hj hi H
   exact⟨y,r2,o2,e2,s,h3',h4⟩
  |some v=>
   rw [hp]at H
   obtain⟨rfl,k1,s,h4⟩:=H
   obtain⟨y,r2,o2,e2,h5,h5',h6⟩:=(V v.1).ok j e k1 r1 o1 hj hi s
   rw [h4]at h6
   exact⟨y,r2,o2,e2,h5,h5',h6⟩
 ·obtain⟨x,r1,o1,Y,H⟩:=hf.no r o hn
  rw [Y,bg]
  exact(V x).no j e r1 o1 hj hi H
def rD{f g:E->ρ->ae->Option (α×ρ×ae×E)}{p q:E->Pr (α×E)}(c:Bool)(hf:uz b I f p)(V:uz b I g q):
  uz b I (fun e r o=>if c=true then f e r o else g e r o) (fun e=>if c=true then p e else q e):=by
 cases c with
 |true=>exact hf
 |false=>exact V
end
def Tp(j:Nat)(e:List Int×Int):Prop:=e.2=(j:Int)/\e.1.length<=j/\ ∀x∈e.1,0<=x
def Dx{B:Bool}{x:Int}(h:0<=x):(B||(decide (x<(0:Int))))=B:=by
 rw [AX (by omega),AW]
def Dw{B:Bool}:(B||(decide ((-1:Int)<(0:Int))))=true:=by
 rw [decide_eq_true (by omega),AV]
def Id(r:aJ)(o:ae){j:Nat}(hj:j<=70000){t:List Int}{a:Int}(hi:Tp j (t,a))(n:Nat)(hn:n<=2):
  ∃L R r' t',cD r o t n a=some (L,R,r',t')/\t'.length<=j+1/\(∀x∈t',0<=x)/\
   (match Eb n t with|some u=>L=u.1/\R=u.2.1/\r' =r/\t' =u.2.2++[a]|none=>r' ={r with bad:=true}):=by
 obtain⟨Y,H,s⟩:=hi
 simp only at Y H s
 subst Y
 have push: ∀l:List Int,l.length<=j->(∀x∈l,0<=x)->jh l [(j:Int)]=some (l++[(j:Int)])/\(l++[(j:Int)]).length<=j+1/\ ∀x∈l++[(j:Int)],0<=x:=by
  intro l hl hp
  refine⟨cE (by simp;omega),by simp;omega,fun x X=>?_⟩
  rcases xV.1 X with X|X
  ·exact hp x X
  ·rw [DY.1 X];omega
 have k2: ∀(L R:Int) (l:List Int) (r:aJ),l.length<=j->(∀x∈l,0<=x)->iL (j:Int) R L l r=some (L,R,r,l++[(j:Int)]):=by
  intro L R l r hl hp
  unfold iL
  rw [(push l hl hp).1];rfl
 have nn: ∀l:List Int,(∀x∈l,0<=x)-> ∀x,l.getLast? =some x->0<=x:=fun l hp x X=>hp x (List.mem_of_getLast? X)
 have dn: ∀l:List Int,(∀x∈l,0<=x)-> ∀x∈l.dropLast,0<=x:=fun l hp x X=>hp x ((List.dropLast_sublist l).subset X)
 unfold cD kC
 match n,hn with
 |0,_=>
  rw [aV (by decide),aV (by decide),k2 _ _ _ _ H s]
  exact⟨_,_,_,_,rfl,(push t H s).2.1,(push t H s).2.2,rfl,rfl,rfl,rfl⟩
 |1,_=>
  rw [aV (by decide),bo (by decide),BF t (by omega),bg]
  cases V:t.getLast? with
  |none=>
   simp only
   rw [k2 _ _ _ _ H s,Dw]
   refine⟨_,_,_,_,rfl,(push t H s).2.1,(push t H s).2.2,?_⟩
   simp only [Eb,V]
  |some x=>
   simp only
   rw [k2 _ _ _ _ (by simp;omega) (dn t s),Dx (nn t s x V)]
   refine⟨_,_,_,_,rfl,(push t.dropLast (by simp;omega) (dn t s)).2.1,(push t.dropLast (by simp;omega) (dn t s)).2.2,?_⟩
   simp only [Eb,V]
   exact⟨trivial,trivial,trivial,trivial⟩
 |2,_=>
  rw [bo (by decide),BF t (by omega),bg]
  cases V:t.getLast? with
  |none=>
   simp only
   rw [bo (by decide),BF t (by omega),bg,V]
   simp only
   rw [k2 _ _ _ _ H s,Dw]
   refine⟨_,_,_,_,rfl,(push t H s).2.1,(push t H s).2.2,?_⟩
   simp only [Eb,V]
  |some y=>
   simp only
   rw [bo (by decide),BF t.dropLast (by simp;omega),bg,Dx (nn t s y V)]
   cases hg2:t.dropLast.getLast? with
   |none=>
    simp only
    rw [k2 _ _ _ _ (by simp;omega) (dn t s),Dw]
    refine⟨_,_,_,_,rfl,(push t.dropLast (by simp;omega) (dn t s)).2.1,(push t.dropLast (by simp;omega) (dn t s)).2.2,?_⟩
    simp only [Eb,V,hg2]
   |some x=>
    simp only
    rw [k2 _ _ _ _ (by simp;omega) (dn _ (dn t s)),Dx (nn _ (dn t s) x hg2)]
    refine⟨_,_,_,_,rfl,(push t.dropLast.dropLast (by simp;omega) (dn _ (dn t s))).2.1,(push t.dropLast.dropLast (by simp;omega) (dn _ (dn t s))).2.2,?_⟩
    simp only [Eb,V,hg2]
    exact⟨trivial,trivial,trivial,trivial⟩
def ow{α:Type}(n:Nat)(h:Int->Int->α)(e:List Int×Int)(r:aJ)(o:ae):Option (α×aJ×ae×List Int×Int):=
 (cD r o e.1 n e.2).bind fun u=>some (h u.1 u.2.1,u.2.2.1,o,u.2.2.2,IntKind.i64.wrap (e.2+1))
def ov{α:Type}(n:Nat)(h:Int->Int->α)(e:List Int×Int):Pr (α×List Int×Int):=fun l=>(Eb n e.1).map fun u=>((h u.1 u.2.1,u.2.2++[e.2],e.2+1),l)
def nA{b:List Int}{α:Type}(n:Nat)(hn:n<=2)(h:Int->Int->α):uz b Tp (ow n h) (ov n h):=by
 refine⟨fun j e k r o hj hi hk=>?_,fun j e r o hj hi hN=>?_⟩
 ·obtain⟨t,a⟩:=e
  obtain⟨L,R,r',t',Y,H,s,h4⟩:=Id r o hj hi n hn
  have ha:a=(j:Int):=hi.1
  have hw:IntKind.i64.wrap (a+1)=a+1:=by rw [qd];omega
  unfold ow ov
  simp only
  rw [Y,bg]
  refine⟨_,_,_,_,rfl,⟨by simp only;rw [hw,ha];omega,H,s⟩,?_⟩
  cases hq:Eb n t with
  |none=>
   rw [hq]at h4
   simp only at h4
   subst h4
   obtain⟨g1,g2,g3,g4⟩:=hk
   exact⟨g1,k,0,g3,g4,.inl rfl⟩
  |some u=>
   rw [hq]at h4
   obtain⟨rfl,rfl,rfl,rfl⟩:=h4
   exact⟨by simp only;rw [hw],k,hk,rfl⟩
 ·obtain⟨t,a⟩:=e
  obtain⟨L,R,r',t',Y,H,s,h4⟩:=Id r o hj hi n hn
  have ha:a=(j:Int):=hi.1
  have hw:IntKind.i64.wrap (a+1)=a+1:=by rw [qd];omega
  unfold ow
  simp only
  rw [Y,bg]
  refine⟨_,_,_,_,rfl,⟨by simp only;rw [hw,ha];omega,H,s⟩,?_⟩
  have hr:r' =r\/r' ={r with bad:=true}:=by
   cases hq:Eb n t with
   |none=>rw [hq]at h4;exact .inr h4
   |some u=>rw [hq]at h4;exact .inl h4.2.2.1
  obtain⟨g1,k,y,g2,g3,g4⟩:=hN
  rcases hr with rfl|rfl
  ·exact⟨g1,k,y,g2,g3,g4⟩
  ·exact⟨g1,k,y,g2,g3,.inl rfl⟩
end Go.Proofs.YtdohlidddcgfjaaGreat


/- bO of this claim: H8. -/
set_option linter.all false
namespace Go.Proofs.YtdohlidddcgfjaaGreat
open Go

def ar(tag:Int):Nat:=if tag==1||tag==2 then 0 else if 12<=tag then 2 else 1
def QN(x:Int):ar x<=2:=by
 unfold ar;repeat' split
 all_goals omega
def QM(x:Int):pm x=some (ar x:Int):=by
 unfold pm ar
 by_cases h:(x==1||x==2)=true
 ·rw [bo h,bo h];rfl
 ·rw [aV h,aV h]
  by_cases H:(12:Int)<=x
  ·rw [bo (by simpa using H),bo H];rfl
  ·rw [aV (by simpa using H),aV H];rfl
def vZ:am:=⟨0,0,0,[]⟩
def Qu(e:List Int×Int)(r:aJ)(o:ae):Option (ap×aJ×ae×List Int×Int):=
 (lg r o).bind fun u=>if(u.1==2)=true then(lg u.2.1 u.2.2).bind fun w=>ow (ar u.1) (fun L R=>⟨u.1,L,R,w.1,vZ⟩) e w.2.1 w.2.2
  else if(u.1==1)=true then(iU u.2.1 u.2.2).bind fun w=>ow (ar u.1) (fun L R=>⟨u.1,L,R,0,w.1⟩) e w.2.1 w.2.2
  else ow (ar u.1) (fun L R=>⟨u.1,L,R,0,vZ⟩) e u.2.1 u.2.2
def pE(e:List Int×Int):Pr (ap×List Int×Int):=
 dM p8 fun x=>if(x==2)=true then dM p8 fun c=>ov (ar x) (fun L R=>⟨x,L,R,c,vZ⟩) e
  else if(x==1)=true then dM pv fun v=>ov (ar x) (fun L R=>⟨x,L,R,0,v⟩) e
  else ov (ar x) (fun L R=>⟨x,L,R,0,vZ⟩) e
def Ge(N:Int):Pr (List ap):=fun l=>(pe pE N.toNat ([],0) l).map fun u=>(u.1.1,u.2)
def Bc:Pr aR:=dM Y9 fun n=>pu aR.mk (Ge n)
def OM(x:Int):Prop:=0<=x/\x<=65535
def HB{ρ:Type}{r r' :ρ}{o o' :ae}{x:Int}(h:MY r o=some (x,r',o')):OM x:=by
 unfold MY gW at h
 cases hw:cd o 2 with
 |none=>rw [hw]at h;cases h
 |some w=>
  rw [hw]at h
  cases h
  unfold OM
  rw [IntKind.wrap_u16,qd]
  omega
section
variable{b:List Int}(W:b.length<=900000000)(hby:sF b)
include W hby
def Qt:uz b Tp Qu pE:=by
  have hs:=nm W hby
  have Y:=ne (I:=Tp) hs fun x=>rD (b:=b) (x==2)
    (ne hs fun c=>nA (b:=b) (ar x) (QN x) (fun L R=>(⟨x,L,R,c,vZ⟩:ap)))
    (rD (x==1) (ne (NV W hby) fun v=>nA (b:=b) (ar x) (QN x) (fun L R=>(⟨x,L,R,0,v⟩:ap)))
      (nA (b:=b) (ar x) (QN x) (fun L R=>(⟨x,L,R,0,vZ⟩:ap))))
  refine Y.congr fun j e r o _=>?_
  rfl
omit W hby in
def Qv(e:List Int×Int)(r:aJ)(o:ae):lE r o e.1 e.2=Qu e r o:=by
 unfold lE Qu lg ow
 cases aM r o with
 |none=>rfl
 |some u=>
  simp only [bg,oD,QM]
  by_cases h:(u.1==2)=true
  ·rw [bo h,bo h]
   cases aM r u.2 with
   |none=>rfl
   |some w=>
    simp only [bg,oD]
    cases cD r w.2 e.1 (ar u.1) e.2<;>rfl
  ·rw [aV h,aV h]
   by_cases h:(u.1==1)=true
   ·rw [bo h,bo h]
   ·rw [aV h,aV h]
    cases cD r u.2 e.1 (ar u.1) e.2<;>rfl
def Kq(N:Int)(r:aJ)(o:ae):Option (List ap×aJ×ae):=(jf r o N [] 0).bind fun q=>some (q.1,q.2.1,q.2.2.1)
def Pu(N:Int)(hN:N<=65535):Rd b (Kq N) (Ge N):=
 zk (Qt W hby) (fun _ _ _=>Fa) (fun _ _=>Fb) N hN ([],0) ⟨rfl,dY 0,by simp⟩ (L:=fun fu out x r o e=>fG N fu out x e.2 e.1 r o) (by
  intro fu out x r o e
  simp only [fG,Qv]
  rfl)
def GM:Rd b fE Bc:=by
 have:=ut (g:=fun n r o=>(Kq n r o).bind fun u=>some (aR.mk u.1,u.2.1,u.2.2)) OM (fun _ _ _ _ _=>HB) (OV W hby) fun n hn=>(Pu W hby n hn.2).map aR.mk
 refine this.congr fun r o=>?_
 unfold fE MY Kq
 cases gW o with
 |none=>rfl
 |some q=>
  simp only [bg,oD]
  cases jf r q.2 (IntKind.i64.wrap q.1) [] 0<;>rfl
def RE:Pr fI:=dM p8 fun f=>pu (fI.mk f) Bc
def RB:Pr kF:=dM p8 fun c=>pu (kF.mk c) Bb
def VW:Rd b oa RE:=by
 refine((nm W hby).bind fun f=>(GM W hby).map (fI.mk f)).congr fun r o=>?_
 unfold oa lg
 cases aM r o<;>rfl
def Uw:Rd b n9 RB:=by
 refine((nm W hby).bind fun f=>(BQ W hby).map (kF.mk f)).congr fun r o=>?_
 unfold n9 lg
 cases aM r o<;>rfl
omit W hby in
def uO{α:Type}{f:aJ->ae->Option (α×aJ×ae)}{p:Pr α}(hf:Rd b f p)(N:Int)(hN:N<=65535){L:Nat->List α->Int->aJ->ae->Option (List α×aJ×ae)}
  (hL: ∀fu out x r o,L (fu+1) out x r o=if decide (x<N)=true then(cV r o).bind fun c=>if(!c)=true then some (out,r,o)else(f r o).bind fun u=>(jh out [u.1]).bind fun out2=>L fu out2 (IntKind.i64.wrap (x+1)) u.2.1 u.2.2 else some (out,r,o)):
  Rd b (fun r o=>L eQ [] 0 r o) (pl p N.toNat):=by
 have h:=zk hf.toE (fun _ _ _=>Fa) (fun _ _=>Fb) N hN () trivial (L:=fun fu out x r o _=>(L fu out x r o).map fun q=>(q.1,q.2.1,q.2.2,())) (by
  intro fu out x r o e
  cases e
  simp only [hL]
  by_cases X:decide (x<N)=true
  ·simp only [X,jl]
   cases cV r o with
   |none=>rfl
   |some c=>
    cases c with
    |false=>rfl
    |true=>
     simp only [bg,rk,nj,kQ]
     cases f r o with
     |none=>rfl
     |some q=>
      simp only [bg,oD]
      cases jh out [q.1]<;>rfl
  ·simp only [X];rfl)
 have e:(fun l=>(pe (fun(_:Unit) l=>(p l).map fun u=>((u.1,()),u.2)) N.toNat () l).map fun u=>(u.1.1,u.2))=pl p N.toNat:=funext fun l=>BM p N.toNat l
 rw [e]at h
 refine h.congr fun r o=>?_
 cases L eQ [] 0 r o<;>rfl
def S3(N:Int)(hN:N<=65535):Rd b (fun r o=>j3 r o N) (pl RE N.toNat):=
 uO (VW W hby) N hN (L:=iG N) fun _ _ _ _ _=>rfl
def Qs(N:Int)(hN:N<=65535):Rd b (fun r o=>jC r o N) (pl Bc N.toNat):=
 uO (GM W hby) N hN (L:=io N) fun _ _ _ _ _=>rfl
def RI(N:Int)(hN:N<=65535):Rd b (fun r o=>jY r o N) (pl RB N.toNat):=
 uO (Uw W hby) N hN (L:=iF N) fun _ _ _ _ _=>rfl
end
end Go.Proofs.YtdohlidddcgfjaaGreat


/- bO of this claim: H9. -/
set_option linter.all false
namespace Go.Proofs.YtdohlidddcgfjaaGreat
open Go

def Kf{α:Type}(p:Pr α):Pr (List α):=dM p8 fun n=>pl p n.toNat
def N6{α:Type}(f:aJ->ae->Int->Option (List α×aJ×ae))(r:aJ)(o:ae):Option (List α×aJ×ae):=(lg r o).bind fun n=>f n.2.1 n.2.2 n.1
section
variable{b:List Int}(W:b.length<=900000000)(hby:sF b)
include W hby
def GS{α:Type}{p:Pr α}{f:aJ->ae->Int->Option (List α×aJ×ae)}(h: ∀N:Int,N<=65535->Rd b (fun r o=>f r o N) (pl p N.toNat)):Rd b (N6 f) (Kf p):=
 ut (g:=fun n r o=>f r o n) (q:=fun n=>pl p n.toNat) om (fun _ _ _ _ _=>yb) (nm W hby) fun x X=>h x (by unfold om at X;omega)
end
def Ku(x:Int):Int:=IntKind.i64.wrap (IntKind.i64.wrap x-1)
def JC(x:Int)(e:List Int×Int)(r:aJ)(o:ae):Option (aa×aJ×ae×List Int×Int):=
 if(x==1||x==9)=true then(lg r o).bind fun t=>(NF t.2.1 t.2.2).bind fun ks=>ow 0 (fun L R=>⟨x,L,R,t.1,ks.1,false,⟨[]⟩,[],[],[],[],0⟩) e ks.2.1 ks.2.2
 else if(x==2)=true then(eN r o).bind fun f=>(fE f.2.1 f.2.2).bind fun c=>ow 2 (fun L R=>⟨x,L,R,0,[],f.1,c.1,[],[],[],[],0⟩) e c.2.1 c.2.2
 else if(x==3)=true then(fE r o).bind fun c=>ow 1 (fun L R=>⟨x,L,R,0,[],false,c.1,[],[],[],[],0⟩) e c.2.1 c.2.2
 else if(x==4||x==10||x==11)=true then(NF r o).bind fun ks=>(N6 j3 ks.2.1 ks.2.2).bind fun a=>ow 1 (fun L R=>⟨x,L,R,0,[],false,⟨[]⟩,ks.1,a.1,[],[],0⟩) e a.2.1 a.2.2
 else if(x==5)=true then(N6 jC r o).bind fun a=>ow 1 (fun L R=>⟨x,L,R,0,[],false,⟨[]⟩,[],[],a.1,[],0⟩) e a.2.1 a.2.2
 else if(x==8)=true then(N6 jY r o).bind fun a=>(OU a.2.1 a.2.2).bind fun l=>ow 1 (fun L R=>⟨x,L,R,0,[],false,⟨[]⟩,[],[],[],a.1,Ku l.1⟩) e l.2.1 l.2.2
 else if(x==7)=true then ow 2 (fun L R=>⟨x,L,R,0,[],false,⟨[]⟩,[],[],[],[],0⟩) e r o
 else ow 1 (fun L R=>⟨x,L,R,0,[],false,⟨[]⟩,[],[],[],[],0⟩) e r o
def Gg(x:Int)(e:List Int×Int):Pr (aa×List Int×Int):=
 if(x==1||x==9)=true then dM p8 fun t=>dM Ns fun ks=>ov 0 (fun L R=>⟨x,L,R,t,ks,false,⟨[]⟩,[],[],[],[],0⟩) e
 else if(x==2)=true then dM Bb fun f=>dM Bc fun c=>ov 2 (fun L R=>⟨x,L,R,0,[],f,c,[],[],[],[],0⟩) e
 else if(x==3)=true then dM Bc fun c=>ov 1 (fun L R=>⟨x,L,R,0,[],false,c,[],[],[],[],0⟩) e
 else if(x==4||x==10||x==11)=true then dM Ns fun ks=>dM (Kf RE) fun a=>ov 1 (fun L R=>⟨x,L,R,0,[],false,⟨[]⟩,ks,a,[],[],0⟩) e
 else if(x==5)=true then dM (Kf Bc) fun a=>ov 1 (fun L R=>⟨x,L,R,0,[],false,⟨[]⟩,[],[],a,[],0⟩) e
 else if(x==8)=true then dM (Kf RB) fun a=>dM Y8 fun l=>ov 1 (fun L R=>⟨x,L,R,0,[],false,⟨[]⟩,[],[],[],a,Ku l⟩) e
 else if(x==7)=true then ov 2 (fun L R=>⟨x,L,R,0,[],false,⟨[]⟩,[],[],[],[],0⟩) e
 else ov 1 (fun L R=>⟨x,L,R,0,[],false,⟨[]⟩,[],[],[],[],0⟩) e
def JB(e:List Int×Int)(r:aJ)(o:ae):Option (aa×aJ×ae×List Int×Int):=(lg r o).bind fun u=>JC u.1 e u.2.1 u.2.2
def LT(e:List Int×Int):Pr (aa×List Int×Int):=dM p8 fun x=>Gg x e
def PV(e:List Int×Int)(r:aJ)(o:ae):lD r o e.1 e.2=JB e r o:=by
 unfold lD pQ JB lg
 cases aM r o with
 |none=>rfl
 |some u=>
  simp only [bg,oD]
  obtain⟨x,o1⟩:=u
  simp only
  unfold JC k7 js N6 lg NF OU ow Ku
  cases Y:(x==1)<;>cases h9:(x==9)<;>simp only [AV,AW,B4,tu,jl,nj,kQ,yZ,bg,yX,yY,Int.ofNat_zero,Int.natCast_zero]<;>try rfl
  cases H:(x==2)<;>simp only [AV,AW,B4,tu,jl,nj,kQ,yZ,bg,yX,yY]<;>try rfl
  cases s:(x==3)<;>simp only [AV,AW,B4,tu,jl,nj,kQ,yZ,bg,yX,yY]<;>try rfl
  cases h4:(x==4)<;>cases h10:(x==10)<;>cases h11:(x==11)<;>simp only [AV,AW,B4,tu,jl,nj,kQ,yZ,bg,yX,yY]<;>try rfl
  cases h5:(x==5)<;>simp only [AV,AW,B4,tu,jl,nj,kQ,yZ,bg,yX,yY]<;>try rfl
  cases h8:(x==8)<;>simp only [AV,AW,B4,tu,jl,nj,kQ,yZ,bg,yX,yY]<;>try rfl
  cases h7:(x==7)<;>simp only [AV,AW,B4,tu,jl,nj,kQ,yZ,bg,yX,yY]<;>try rfl
section
variable{b:List Int}(W:b.length<=900000000)(hby:sF b)
include W hby
def MT(x:Int):uz b Tp (JC x) (Gg x):=by
  have hs:=nm W hby
  have hn:=Pt W hby
  have he:=GM W hby
  have:=rD (b:=b) (I:=Tp) (x==1||x==9) (ne hs fun t=>ne hn fun ks=>nA 0 (by omega) (fun L R=>(⟨x,L,R,t,ks,false,⟨[]⟩,[],[],[],[],0⟩:aa)))
    (rD (x==2) (ne (BQ W hby) fun f=>ne he fun c=>nA 2 (by omega) (fun L R=>(⟨x,L,R,0,[],f,c,[],[],[],[],0⟩:aa)))
    (rD (x==3) (ne he fun c=>nA 1 (by omega) (fun L R=>(⟨x,L,R,0,[],false,c,[],[],[],[],0⟩:aa)))
    (rD (x==4||x==10||x==11) (ne hn fun ks=>ne (GS W hby (S3 W hby)) fun a=>nA 1 (by omega) (fun L R=>(⟨x,L,R,0,[],false,⟨[]⟩,ks,a,[],[],0⟩:aa)))
    (rD (x==5) (ne (GS W hby (Qs W hby)) fun a=>nA 1 (by omega) (fun L R=>(⟨x,L,R,0,[],false,⟨[]⟩,[],[],a,[],0⟩:aa)))
    (rD (x==8) (ne (GS W hby (RI W hby)) fun a=>ne (OT W hby) fun l=>nA 1 (by omega) (fun L R=>(⟨x,L,R,0,[],false,⟨[]⟩,[],[],[],a,Ku l⟩:aa)))
    (rD (x==7) (nA 2 (by omega) (fun L R=>(⟨x,L,R,0,[],false,⟨[]⟩,[],[],[],[],0⟩:aa)))
      (nA 1 (by omega) (fun L R=>(⟨x,L,R,0,[],false,⟨[]⟩,[],[],[],[],0⟩:aa)))))))))
  exact this
def MS:uz b Tp JB LT:=ne (nm W hby) fun x=>MT W hby x
def BL(N:Int):Pr (List aa):=fun l=>(pe LT N.toNat ([],0) l).map fun u=>(u.1.1,u.2)
def Gr(r:aJ)(o:ae)(N:Int):Option (List aa×aJ×ae):=(lk r o N [] 0).bind fun q=>some (q.1,q.2.1,q.2.2.1)
def NM(N:Int)(hN:N<=65535):Rd b (fun r o=>Gr r o N) (BL N):=
 zk (MS W hby) (fun _ _ _=>Fa) (fun _ _=>Fb) N hN ([],0) ⟨rfl,dY 0,by simp⟩ (L:=fun fu out x r o e=>fF N fu out x e.2 e.1 r o) (by
  intro fu out x r o e
  simp only [fF,PV]
  rfl)
def LU:Pr dC:=dM p8 fun a=>dM p8 fun w=>dM Ns fun cs=>dM p8 fun n=>pu (fun ns=>dC.mk ns a w cs) (BL n)
def RZ:Rd b na LU:=by
 have hs:=nm W hby
 have:=hs.bind fun a=>hs.bind fun w=>(Pt W hby).bind fun cs=>ut (g:=fun n r o=>(Gr r o n).bind fun u=>some (dC.mk u.1 a w cs,u.2.1,u.2.2)) om (fun _ _ _ _ _=>yb) hs fun n hn=>(NM W hby n (by unfold om at hn;omega)).map fun ns=>dC.mk ns a w cs
 refine this.congr fun r o=>?_
 unfold na lg NF Gr
 simp only [yZ,bg,yX,yY]
def PU(N:Int)(hN:N<=65535):Rd b (fun r o=>lV r o N) (pl LU N.toNat):=
 uO (RZ W hby) N hN (L:=im N) fun _ _ _ _ _=>rfl
def LR:Pr da:=pu da.mk (Kf LU)
def RC:Rd b m9 LR:=by
 refine((GS W hby (PU W hby)).map da.mk).congr fun r o=>?_
 unfold m9 N6 lg
 simp only [yZ,bg,yX,yY]
end
end Go.Proofs.YtdohlidddcgfjaaGreat


/- bO of this claim: H10. -/
set_option linter.all false
namespace Go.Proofs.YtdohlidddcgfjaaGreat
open Go

def Qz{b:List Int}(W:b.length<=900000000){k:Nat}{r:aJ}{o:ae}(h:Ok b k r o):iV r o=some (b.drop k==[]):=by
 unfold iV
 rw [Fa h,bg,bo rfl]
 obtain⟨_,_,rfl,h4⟩:=h
 rw [xl 0 h4 (by omega),bg]
 congr 1
 by_cases hk:k=b.length
 ·subst hk;simp
 ·have Y:b.drop k≠[]:=by
   intro hc
   have:=congrArg List.length hc
   rw [Bt]at this
   simp at this
   omega
  have H:((b.length-k:Nat):Int)≠0:=by omega
  rw [show(b.drop k==[])=false from by simpa using Y]
  simpa using H
def QA{b:List Int}{r:aJ}{o:ae}(h:No b r o):iV r o=some false:=by
 unfold iV
 rw [Fb h,bg,aV (by simp)]
end Go.Proofs.YtdohlidddcgfjaaGreat


/- bO of this claim: H11. -/
set_option linter.all false
namespace Go.Proofs.YtdohlidddcgfjaaGreat
open Go

def Dt(q t:Int): ∀k m,k<=m->ev (q+t*2^(8*m)) k=ev q k
 |0,_,_=>rfl
 |k+1,m,h=>by
  unfold ev
  rw [Dt q t k m (by omega)]
  congr 1
  obtain⟨aL,rfl⟩: ∃aL,m=k+1+aL:=⟨m-(k+1),by omega⟩
  have e:(2:Int)^(8*(k+1+aL))=(256*2^(8*aL))*2^(8*k):=by
   rw [show 8*(k+1+aL)=8+8*aL+8*k from by omega,Int.pow_add,Int.pow_add]
   rfl
  have hp:(0:Int)<2^(8*k):=Int.pow_pos (by omega)
  rw [e,<-Int.mul_assoc,EF _ (by omega),EF _ (by omega),Int.add_mul_ediv_right _ _ (by omega),z7,z7,Int.mul_left_comm,Int.add_mul_emod_self_left]
def FA: ∀l:List Int,sF l->ev (bn l) l.length=l/\0<=bn l/\bn l<2^(8*l.length)
 |[],_=>⟨rfl,by simp [bn],by simp [bn]⟩
 |c::l,h=>by
  obtain⟨⟨n,Y,rfl⟩,H⟩:=Du h
  obtain⟨g1,g2,g3⟩:=FA l H
  have hp:(0:Int)<2^(8*l.length):=Int.pow_pos (by omega)
  have e:bn ((n:Int)::l)=bn l+(n:Int)*2^(8*l.length):=by
   show(n:Int)*256^l.length+bn l=_
   rw [show(256:Int)=2^8 from rfl,<-Int.pow_mul]
   omega
  refine⟨?_,?_,?_⟩
  ·rw [e,iR,ev,Dt _ _ _ _ (dY _),g1,EF _ (by omega),Int.add_mul_ediv_right _ _ (by omega),Int.ediv_eq_zero_of_lt g2 g3,z7]
   congr 1
   omega
  ·rw [e];have:=Int.mul_nonneg (show(0:Int)<=n by omega) (Int.le_of_lt hp);omega
  ·rw [e,iR,show 8*(l.length+1)=8*l.length+8 from by omega,Int.pow_add]
   have:(n:Int)*2^(8*l.length)<=255*2^(8*l.length):=Int.mul_le_mul_of_nonneg_right (by omega) (Int.le_of_lt hp)
   omega
def Ze(l:List Int):Prop:=sF l/\l.length<=5000
def Ja{l:List Int}(h:Ze l)(n:Nat):Ze (l.drop n):=⟨uo h.1 n,by have:=h.2;simp;omega⟩
def jk{α:Type}(p:Pr α)(enc:α->List Int)(good:α->Prop):Prop:= ∀l x r,Ze l->p l=some (x,r)->l=enc x++r/\good x/\Ze r
def jk.size{α:Type}{p:Pr α}{enc:α->List Int}{good:α->Prop}(h:jk p enc good):jk p enc (fun x=>good x/\(enc x).length<=5000):=by
 intro l x r hl X
 obtain⟨g1,g2,g3⟩:=h l x r hl X
 refine⟨g1,⟨g2,?_⟩,g3⟩
 have:=hl.2
 rw [g1,kJ]at this
 omega
def jk.bind{α β:Type}{p:Pr α}{q:α->Pr β}{e1:α->List Int}{P1:α->Prop}{e2:α->β->List Int}{P2:α->β->Prop}{enc:β->List Int}{good:β->Prop}(Y:jk p e1 P1)(H: ∀x,P1 x->jk (q x) (e2 x) (P2 x))(s: ∀x y,P1 x->P2 x y->enc y=e1 x++e2 x y/\good y):jk (dM p q) enc good:=by
 intro l y r hl h
 unfold dM at h
 cases hp:p l with
 |none=>rw [hp]at h;cases h
 |some u=>
  rw [hp,bg]at h
  obtain⟨g1,g2,g3⟩:=Y l u.1 u.2 hl hp
  obtain⟨g4,g5,g6⟩:=H u.1 g2 u.2 y r g3 h
  obtain⟨g7,g8⟩:=s u.1 y g2 g5
  exact⟨by rw [g1,g4,g7,oB],g8,g6⟩
def jk.map{α β:Type}{p:Pr α}{f:α->β}{e1:α->List Int}{P1:α->Prop}{enc:β->List Int}{good:β->Prop}(Y:jk p e1 P1)(s: ∀x,P1 x->enc (f x)=e1 x/\good (f x)):jk (pu f p) enc good:=by
 intro l y r hl h
 unfold pu at h
 cases hp:p l with
 |none=>rw [hp]at h;cases h
 |some u=>
  rw [hp]at h
  cases h
  obtain⟨g1,g2,g3⟩:=Y l u.1 u.2 hl hp
  obtain⟨g7,g8⟩:=s u.1 g2
  exact⟨by rw [g7];exact g1,g8,g3⟩
def DA{α:Type}(x:α){enc:α->List Int}{good:α->Prop}(Y:enc x=[])(H:good x):jk (fun l=>some (x,l)) enc good:=by
 intro l y r hl h
 cases h
 exact⟨by rw [Y];rfl,H,hl⟩
def jk.need{c:Bool}:jk (xJ c) (fun _=>[]) (fun _=>c=true):=by
 intro l y r hl h
 unfold xJ at h
 split at h
 ·cases h;rename_i hc;exact⟨rfl,hc,hl⟩
 ·cases h
def tI(n:Nat):jk (pw n) (fun x=>ev x n) (fun x=>0<=x/\x<2^(8*n)):=by
 intro l x r hl h
 unfold pw at h
 split at h
 ·cases h
 ·rename_i hn
  cases h
  have hlen:(l.take n).length=n:=by simp;omega
  obtain⟨g1,g2,g3⟩:=FA (l.take n) (zQ hl.1 n)
  rw [hlen]at g1 g3
  exact⟨by simp only [g1,rQ],⟨g2,g3⟩,Ja hl n⟩
def kq:jk p8 (fun x=>[IntKind.u8.wrap x]) om:=
 (tI 1).map fun x X=>by
  obtain⟨Y,H⟩:=X
  have H:x<256:=H
  have e:IntKind.i64.wrap (IntKind.u8.wrap x)=x:=by rw [z7,qd];omega
  rw [e]
  refine⟨?_,Y,by omega⟩
  simp [ev]
def LV:jk Y9 (fun x=>ev x 2) OM:=
 (tI 2).map fun x X=>by
  obtain⟨Y,H⟩:=X
  have H:x<65536:=H
  have e:IntKind.i64.wrap (IntKind.u16.wrap x)=x:=by rw [IntKind.wrap_u16,qd];omega
  rw [e]
  exact⟨rfl,Y,by omega⟩
def Gl:jk Y8 (fun x=>ev x 4) (fun x=>0<=x/\x<4294967296):=
 (tI 4).map fun x X=>by
  obtain⟨Y,H⟩:=X
  have H:x<4294967296:=H
  have e:IntKind.u32.wrap x=x:=by rw [IntKind.wrap_u32];omega
  rw [e]
  exact⟨rfl,Y,H⟩
def w3:jk Bb (fun b=>[fB b]) (fun _=>True):=by
 intro l x r hl h
 unfold Bb at h
 cases hp:p8 l with
 |none=>rw [hp]at h;cases h
 |some u=>
  rw [hp,bg]at h
  obtain⟨g1,g2,g3⟩:=kq l u.1 u.2 hl hp
  split at h
  ·cases h
  ·rename_i hc
   cases h
   refine⟨?_,trivial,g3⟩
   rw [g1]
   obtain⟨q1,q2⟩:=g2
   rcases(show u.1=0\/u.1=1 by omega)with h0|h0<;>rw [h0]<;>rfl
def Pf(n:Nat):jk (Pg n) (fun h3=>h3) (fun h3=>h3.length=n/\sF h3):=by
 intro l x r hl h
 unfold Pg at h
 split at h
 ·cases h
 ·cases h
  exact⟨by rw [rQ],⟨by simp;omega,zQ hl.1 n⟩,Ja hl n⟩
def Gh{α:Type}{p:Pr α}{enc:α->List Int}{good:α->Prop}(h:jk p enc good): ∀n,jk (pl p n) (fun xs=>xs.flatMap enc) (fun xs=>xs.length=n/\ ∀x∈xs,good x)
 |0=>DA [] rfl ⟨rfl,fun _ X=>by cases X⟩
 |n+1=>by
  have H:=jk.bind (enc:=fun xs=>xs.flatMap enc) (good:=fun xs=>xs.length=n+1/\ ∀x∈xs,good x) h (q:=fun x=>pu (fun xs=>x::xs) (pl p n)) (e2:=fun x xs=>(xs.drop 1).flatMap enc) (P2:=fun x xs=> ∃ys,xs=x::ys/\ys.length=n/\ ∀x∈ys,good x)
   (fun x X=>(Gh h n).map fun ys hy=>⟨by simp,ys,rfl,hy.1,hy.2⟩) (by
    rintro x y X ⟨ys,rfl,g1,g2⟩
    refine⟨by simp,by simp [g1],fun z hz=>?_⟩
    rcases j8.1 hz with rfl|hz
    ·exact X
    ·exact g2 z hz)
  have e:pl p (n+1)=dM p (fun x=>pu (fun xs=>x::xs) (pl p n)):=by
   funext l
   unfold pl dM pu
   cases p l with
   |none=>rfl
   |some u=>simp only [bg];cases pl p n u.2<;>rfl
  rw [e];exact H
def wg{α:Type}{p:Pr α}{enc:α->List Int}{good:α->Prop}(h:jk p enc good):jk (Kf p) (fun xs=>IntKind.u8.wrap (xs.length:Int)::xs.flatMap enc) (fun xs=>xs.length<=255/\ ∀x∈xs,good x):=
 jk.bind kq (fun n _=>Gh h n.toNat) fun n xs hn X=>by
  obtain⟨Y,H⟩:=hn
  obtain⟨s,h4⟩:=X
  have e:(xs.length:Int)=n:=by omega
  rw [e]
  exact⟨rfl,by omega,h4⟩
def IP{f:Int->Int}: ∀l:List Int,l.flatMap (fun x=>[f x])=l.map f
 |[]=>rfl
 |x::l=>by rw [DV,IP l];rfl
def CS:jk Ns Ju (fun xs=>xs.length<=255/\ ∀x∈xs,om x):=by
 have e:Ns=Kf p8:=rfl
 rw [e]
 intro l x r hl h
 obtain⟨g1,g2,g3⟩:=wg kq l x r hl h
 refine⟨?_,g2,g3⟩
 rw [g1]
 unfold Ju tE
 simp only [B3]
 congr 2
 exact IP x
def qS: ∀{h3:List Int},sF h3->lI (lu h3)=h3/\(lu h3).length=h3.length
 |[],_=>⟨rfl,rfl⟩
 |c::h3,h=>by
  obtain⟨⟨n,Y,rfl⟩,H⟩:=Du h
  obtain⟨g1,g2⟩:=qS H
  refine⟨?_,by simp [lu]⟩
  show((UInt8.ofNat (n:Int).toNat).toNat:Int)::lI (lu h3)=_
  rw [g1,Ad,UInt8.toNat_ofNat',Nat.mod_eq_of_lt (by omega)]
def uc(v:am):jk (CT v) (fun _=>[]) (fun w=>w=v/\gr v=true):=
 jk.bind jk.need (fun _ _=>DA (good:=fun w=>w=v) v rfl rfl) fun _ w Y H=>⟨rfl,H,Y⟩
def gv(v:am):Prop:=gr v=true/\v.S.length<=40
def Pd:jk pv vB gv:=by
 refine jk.bind kq (e2:=fun c v=>(vB v).drop 1) (P2:=fun c v=>v.Kind=c/\gv v) (fun c hc=>?_) (fun c v _ h=>⟨by rw [<-h.1];rfl,h.2⟩);refine jk.bind (P2:=fun _ v=>v.Kind=c/\gv v) (e2:=fun _ v=>(vB v).drop 1) jk.need (fun _ hc4=>?_) (fun _ v _ h=>⟨rfl,h⟩)
 unfold E2
 split
 ·rename_i Y
  have Y:c=1:=by simpa using Y
  subst Y
  refine jk.bind (P2:=fun u v=>v=⟨1,u,0,[]⟩/\gr ⟨1,u,0,[]⟩=true) kq (fun u _=>uc _) ?_
  rintro u v hu ⟨rfl,hr⟩
  exact⟨rfl,rfl,hr,by simp⟩
 split
 ·rename_i Y
  have Y:c=2:=by simpa using Y
  subst Y
  refine jk.bind (P2:=fun u v=>v=⟨2,i64 u,0,[]⟩/\gr ⟨2,i64 u,0,[]⟩=true) (tI 8) (fun u _=>uc _) ?_
  rintro u v ⟨hu,hu2⟩ ⟨rfl,hr⟩
  have hu2:u<18446744073709551616:=hu2
  refine⟨?_,rfl,hr,by simp⟩
  show ev (IntKind.u64.wrap (i64 u)) 8=_
  have e:IntKind.u64.wrap (i64 u)=u:=by unfold i64;rw [Bs,qd];omega
  rw [e,tv]
 split
 ·rename_i Y
  have Y:c=3:=by simpa using Y
  subst Y
  refine jk.bind (P2:=fun u v=>u<=40/\ ∃h3,(h3.length=u.toNat/\sF h3)/\v=⟨3,0,0,lu h3⟩/\gr ⟨3,0,0,lu h3⟩=true) (e2:=fun u v=>lI v.S) kq (fun u hu=>?_) ?_
  ·refine jk.bind (P2:=fun _ v=> ∃h3,(h3.length=u.toNat/\sF h3)/\v=⟨3,0,0,lu h3⟩/\gr ⟨3,0,0,lu h3⟩=true) (e2:=fun _ v=>lI v.S) jk.need (fun _ h40=>?_) (fun _ v h40 h=>⟨rfl,by simpa using h40,h⟩);refine jk.bind (P2:=fun h3 v=>v=⟨3,0,0,lu h3⟩/\gr ⟨3,0,0,lu h3⟩=true) (Pf _) (fun h3 _=>uc _) ?_
   rintro h3 v ⟨hs1,hs2⟩ ⟨rfl,hr⟩
   exact⟨by rw [(qS hs2).1,tv],h3,⟨hs1,hs2⟩,rfl,hr⟩
  ·rintro u v ⟨hu,_⟩ ⟨h40,h3,⟨hs1,hs2⟩,rfl,hr⟩
   have hl:=(qS hs2).2
   have e:((lu h3).length:Int)=u:=by rw [hl,hs1];omega
   refine⟨?_,rfl,hr,?_⟩
   ·show IntKind.u8.wrap ((lu h3).length:Int)::lI (lu h3)=_
    rw [e];rfl
   ·show(lu h3).length<=40
    omega
 split
 ·rename_i Y
  have Y:c=4:=by simpa using Y
  subst Y
  refine jk.bind (P2:=fun u v=> ∃w,(0<=w/\w<2^(8*8))/\v=⟨4,i64 u,w,[]⟩/\gr ⟨4,i64 u,w,[]⟩=true) (e2:=fun u v=>ev v.U 8) (tI 8) (fun u hu=>?_) ?_
  ·refine jk.bind (P2:=fun w v=>v=⟨4,i64 u,w,[]⟩/\gr ⟨4,i64 u,w,[]⟩=true) (tI 8) (fun w _=>uc _) ?_
   rintro w v hw ⟨rfl,hr⟩
   exact⟨by simp,w,hw,rfl,hr⟩
  ·rintro u v ⟨hu,hu2⟩ ⟨w,hw,rfl,hr⟩
   have hu2:u<18446744073709551616:=hu2
   refine⟨?_,rfl,hr,by simp⟩
   show ev (IntKind.u64.wrap (i64 u)) 8++ev w 8=_
   have e:IntKind.u64.wrap (i64 u)=u:=by unfold i64;rw [Bs,qd];omega
   rw [e]
 ·rename_i Y H s h4
  have hc' :c=0:=by
   have:=hc.1
   have h4' :c<=4:=by simpa using hc4
   simp only [qQ]at Y H s h4
   omega
  subst hc'
  intro l v r hl h
  obtain⟨g1,⟨rfl,g2⟩,g3⟩:=uc _ l v r hl h
  exact⟨g1,⟨rfl,g2,by simp⟩,g3⟩
end Go.Proofs.YtdohlidddcgfjaaGreat


/- bO of this claim: H12. -/
set_option linter.all false
namespace Go.Proofs.YtdohlidddcgfjaaGreat
open Go

def lj{α:Type}(n:Nat)(h:Int->Int->α)(e:List Int×Int):jk (ov n h e) (fun _=>[]) (fun u=> ∃L R,u.1=h L R):=by
 intro l x r hl X
 unfold ov at X
 cases hp:Eb n e.1 with
 |none=>rw [hp]at X;cases X
 |some u=>
  rw [hp]at X
  cases X
  exact⟨rfl,⟨u.1,u.2.1,rfl⟩,hl⟩
def gS(n:ap):Prop:=n.Value.S.length<=40
def Uu(e:List Int×Int):jk (pE e) (fun u=>nB u.1) (fun u=>gS u.1):=by
 refine jk.bind kq (e2:=fun x u=>(nB u.1).drop 1) (P2:=fun x u=>u.1.Tag=x/\gS u.1) (fun x X=>?_) (fun x u _ h=>⟨by rw [<-h.1];rfl,h.2⟩)
 split
 ·rename_i Y
  have Y:x=2:=by simpa using Y
  subst Y
  refine jk.bind (P2:=fun c u=> ∃L R,u.1=(⟨2,L,R,c,vZ⟩:ap)) kq (fun c _=>lj _ _ _) ?_
  rintro c ⟨u,e'⟩ hc ⟨L,R,rfl⟩
  exact⟨rfl,rfl,by simp [gS,vZ]⟩
 split
 ·rename_i Y
  have Y:x=1:=by simpa using Y
  subst Y
  refine jk.bind (P2:=fun v u=> ∃L R,u.1=(⟨1,L,R,0,v⟩:ap)) Pd (fun v _=>lj _ _ _) ?_
  rintro v ⟨u,e'⟩ hv ⟨L,R,rfl⟩
  exact⟨by simp [nB],rfl,hv.2⟩
 ·rename_i H Y
  intro l u r hl hu
  obtain⟨g1,⟨L,R,g2⟩,g3⟩:=lj _ _ _ l u r hl hu
  obtain⟨u,e'⟩:=u
  cases (g2:u=_)
  refine⟨?_,?_,g3⟩
  ·rw [g1]
   simp only [qQ]at Y H
   simp [nB,Y,H]
  ·exact⟨rfl,by simp [gS,vZ]⟩
def Ap{α E:Type}{p:E->Pr (α×E)}{enc:α->List Int}{good:α->Prop}(h: ∀e,jk (p e) (fun u=>enc u.1) (fun u=>good u.1)): ∀n e,jk (pe p n e) (fun u=>u.1.flatMap enc) (fun u=>u.1.length=n/\ ∀x∈u.1,good x)
 |0,e=>fun l u r hl hu=>by
  cases hu
  exact⟨rfl,⟨rfl,fun _ X=>by cases X⟩,hl⟩
 |n+1,e=>fun l u r hl hu=>by
  unfold pe at hu
  cases hp:p e l with
  |none=>rw [hp]at hu;cases hu
  |some w=>
   rw [hp,bg]at hu
   obtain⟨g1,g2,g3⟩:=h e l w.1 w.2 hl hp
   cases hq:pe p n w.1.2 w.2 with
   |none=>rw [hq]at hu;cases hu
   |some z=>
    rw [hq]at hu
    cases hu
    obtain⟨q1,q2,q3⟩:=Ap h n w.1.2 w.2 z.1 z.2 g3 hq
    refine⟨?_,⟨by simp [q2.1],fun y hy=>?_⟩,q3⟩
    ·rw [g1,q1];simp
    ·rcases j8.1 hy with rfl|hy
     ·exact g2
     ·exact q2.2 y hy
def Fl{α:Type}{f:α->List Int}(h: ∀x,1<=(f x).length): ∀l:List α,l.length<=(l.flatMap f).length
 |[]=>dY 0
 |x::l=>by
  have:=Fl h l
  have:=h x
  rw [DV,kJ,iR]
  omega
def gX(e:aR):Prop:=e.Nodes.length<=5000/\ ∀n∈e.Nodes,gS n
def Kb(N:Int):jk (Ge N) (fun ns=>ns.flatMap nB) (fun ns=>ns.length=N.toNat/\ ∀n∈ns,gS n):=by
 intro l u r hl hu
 unfold Ge at hu
 cases hq:pe pE N.toNat ([],0) l with
 |none=>rw [hq]at hu;cases hu
 |some z=>
  rw [hq]at hu
  cases hu
  exact Ap Uu N.toNat ([],0) l z.1 z.2 hl hq
def w5:jk Bc eB gX:=by
 have h:jk Bc eB (fun x=> ∀m∈x.Nodes,gS m):=by
  refine jk.bind LV (e2:=fun _ x=>x.Nodes.flatMap nB) (P2:=fun n x=>x.Nodes.length=n.toNat/\ ∀m∈x.Nodes,gS m) (fun n hn=>(Kb n).map fun ns h=>⟨rfl,h⟩) ?_
  rintro n x ⟨Y,H⟩ ⟨s,h4⟩
  have e:(x.Nodes.length:Int)=n:=by omega
  exact⟨by unfold eB;rw [e],h4⟩
 intro l x r hl X
 obtain⟨g1,⟨g2,g4⟩,g3⟩:=h.size l x r hl X
 refine⟨g1,⟨?_,g2⟩,g3⟩
 have:=Fl (f:=nB) (fun n=>by simp [nB]) x.Nodes
 unfold eB at g4
 rw [kJ]at g4
 omega
def Pk:jk RE QP (fun a=>gX a.Arg):=
 jk.bind kq (e2:=fun _ a=>eB a.Arg) (P2:=fun f a=>a.Tag=f/\gX a.Arg) (fun f _=>w5.map fun x h=>⟨rfl,rfl,h⟩) fun f a _ h=>⟨by rw [<-h.1];rfl,h.2⟩
def Ph:jk RB Tm (fun _=>True):=
 jk.bind kq (e2:=fun _ a=>[fB a.Desc]) (P2:=fun f a=>a.Col=f) (fun f _=>w3.map fun x h=>⟨rfl,rfl⟩) fun f a _ h=>⟨by rw [<-h];rfl,trivial⟩
structure gD(n:aa):Prop where
 kinds:n.Kinds.length<=255
 keys:n.Keys.length<=255
 order:n.Order.length<=255
 items:n.Items.length<=255
 aggs:n.Aggs.length<=255
 cond:gX n.Cond
 item: ∀e∈n.Items,gX e
 arg: ∀a∈n.Aggs,gX a.Arg
def WL:gX ⟨[]⟩:=⟨by simp,fun _ h=>by cases h⟩
def Kc(x:Int)(e:List Int×Int):jk (Gg x e) (fun u=>xu u.1) (fun u=>u.1.Op=x/\gD u.1):=by
 unfold Gg
 split
 ·rename_i Y
  have Y:x=1\/x=9:=by simpa using Y
  refine jk.bind (P2:=fun t u=> ∃ks L R,ks.length<=255/\u.1=(⟨x,L,R,t,ks,false,⟨[]⟩,[],[],[],[],0⟩:aa)) (e2:=fun _ u=>Ju u.1.Kinds) kq (fun t _=>?_) ?_
  ·refine jk.bind (P2:=fun ks u=> ∃L R,u.1=(⟨x,L,R,t,ks,false,⟨[]⟩,[],[],[],[],0⟩:aa)) CS (fun ks _=>lj _ _ _) ?_
   rintro ks ⟨u,e'⟩ hk ⟨L,R,rfl⟩
   exact⟨by simp,ks,L,R,hk.1,rfl⟩
  ·rintro t ⟨u,e'⟩ D ⟨ks,L,R,hk,rfl⟩
   exact⟨by simp [xu,Y],rfl,⟨hk,by simp,by simp,by simp,by simp,WL,by simp,by simp⟩⟩
 split
 ·rename_i Y H
  have H:x=2:=by simpa using H
  subst H
  refine jk.bind (P2:=fun f u=> ∃c L R,gX c/\u.1=(⟨2,L,R,0,[],f,c,[],[],[],[],0⟩:aa)) (e2:=fun _ u=>eB u.1.Cond) w3 (fun f _=>?_) ?_
  ·refine jk.bind (P2:=fun c u=> ∃L R,u.1=(⟨2,L,R,0,[],f,c,[],[],[],[],0⟩:aa)) w5 (fun ks _=>lj _ _ _) ?_
   rintro c ⟨u,e'⟩ hk ⟨L,R,rfl⟩
   exact⟨by simp,c,L,R,hk,rfl⟩
  ·rintro f ⟨u,e'⟩ D ⟨c,L,R,hk,rfl⟩
   exact⟨by simp [xu],rfl,⟨by simp,by simp,by simp,by simp,by simp,hk,by simp,by simp⟩⟩
 split
 ·rename_i Y H s
  have s:x=3:=by simpa using s
  subst s
  refine jk.bind (P2:=fun c u=> ∃L R,u.1=(⟨3,L,R,0,[],false,c,[],[],[],[],0⟩:aa)) w5 (fun ks _=>lj _ _ _) ?_
  rintro c ⟨u,e'⟩ hk ⟨L,R,rfl⟩
  exact⟨by simp [xu],rfl,⟨by simp,by simp,by simp,by simp,by simp,hk,by simp,by simp⟩⟩
 split
 ·rename_i Y H s h4
  have h4:x=4\/x=10\/x=11:=by simpa [or_assoc] using h4
  refine jk.bind (P2:=fun ks u=> ∃a L R,(a.length<=255/\ ∀g∈a,gX g.Arg)/\u.1=(⟨x,L,R,0,[],false,⟨[]⟩,ks,a,[],[],0⟩:aa)) (e2:=fun _ u=>IntKind.u8.wrap (u.1.Aggs.length:Int)::u.1.Aggs.flatMap QP) CS (fun ks _=>?_) ?_
  ·refine jk.bind (P2:=fun a u=> ∃L R,u.1=(⟨x,L,R,0,[],false,⟨[]⟩,ks,a,[],[],0⟩:aa)) (wg Pk) (fun a _=>lj _ _ _) ?_
   rintro a ⟨u,e'⟩ hk ⟨L,R,rfl⟩
   exact⟨by simp,a,L,R,hk,rfl⟩
  ·rintro ks ⟨u,e'⟩ D ⟨a,L,R,hk,rfl⟩
   refine⟨?_,rfl,⟨by simp,D.1,by simp,by simp,hk.1,WL,by simp,hk.2⟩⟩
   rcases h4 with rfl|rfl|rfl<;>simp [xu]
 split
 ·rename_i Y H s h4 h5
  have h5:x=5:=by simpa using h5
  subst h5
  refine jk.bind (P2:=fun a u=> ∃L R,u.1=(⟨5,L,R,0,[],false,⟨[]⟩,[],[],a,[],0⟩:aa)) (wg w5) (fun a _=>lj _ _ _) ?_
  rintro a ⟨u,e'⟩ hk ⟨L,R,rfl⟩
  exact⟨by simp [xu],rfl,⟨by simp,by simp,by simp,hk.1,by simp,WL,hk.2,by simp⟩⟩
 split
 ·rename_i Y H s h4 h5 h8
  have h8:x=8:=by simpa using h8
  subst h8
  refine jk.bind (P2:=fun a u=> ∃l L R,(0<=l/\l<4294967296)/\u.1=(⟨8,L,R,0,[],false,⟨[]⟩,[],[],[],a,Ku l⟩:aa)) (e2:=fun _ u=>Gt u.1) (wg Ph) (fun a _=>?_) ?_
  ·refine jk.bind (P2:=fun l u=> ∃L R,u.1=(⟨8,L,R,0,[],false,⟨[]⟩,[],[],[],a,Ku l⟩:aa)) Gl (fun l _=>lj _ _ _) ?_
   rintro l ⟨u,e'⟩ hk ⟨L,R,rfl⟩
   refine⟨?_,l,L,R,hk,rfl⟩
   unfold Gt Ku
   have e:IntKind.u64.wrap (IntKind.i64.wrap (IntKind.i64.wrap (IntKind.i64.wrap l-1)+1))=l:=by
    obtain⟨q1,q2⟩:=hk
    rw [Bs,qd,qd,qd];omega
   simp only [e,tv]
  ·rintro a ⟨u,e'⟩ D ⟨l,L,R,hk,rfl⟩
   exact⟨by simp [xu],rfl,⟨by simp,by simp,D.1,by simp,by simp,WL,by simp,by simp⟩⟩
 have last: ∀n,(Y: ¬(x==1||x==9)=true)->(H: ¬(x==2)=true)->(s: ¬(x==3)=true)->(h4: ¬(x==4||x==10||x==11)=true)->(h5: ¬(x==5)=true)->(h8: ¬(x==8)=true)->jk (ov n (fun L R=>(⟨x,L,R,0,[],false,⟨[]⟩,[],[],[],[],0⟩:aa)) e) (fun u=>xu u.1) (fun u=>u.1.Op=x/\gD u.1):=by
  intro n Y H s h4 h5 h8 l u r hl hu
  obtain⟨g1,⟨L,R,g2⟩,g3⟩:=lj _ _ _ l u r hl hu
  obtain⟨u,e'⟩:=u
  cases (g2:u=_)
  refine⟨?_,?_,g3⟩
  ·rw [g1]
   simp only [z6,qQ,not_or]at Y H s h4 h5 h8
   simp [xu,Y,H,s,h4,h5,h8]
  ·exact⟨rfl,⟨by simp,by simp,by simp,by simp,by simp,WL,by simp,by simp⟩⟩
 split<;>(rename_i Y H s h4 h5 h8 _;exact last _ Y H s h4 h5 h8)
def Nt(e:List Int×Int):jk (LT e) (fun u=>yl u.1) (fun u=>gD u.1):=
 jk.bind kq (fun x _=>Kc x e) fun x u _ h=>⟨by unfold yl;rw [h.1];rfl,h.2⟩
def H0(N:Int):jk (BL N) (fun ns=>ns.flatMap yl) (fun ns=>ns.length=N.toNat/\ ∀n∈ns,gD n):=by
 intro l u r hl hu
 unfold BL at hu
 cases hq:pe LT N.toNat ([],0) l with
 |none=>rw [hq]at hu;cases hu
 |some z=>
  rw [hq]at hu
  cases hu
  exact Ap Nt N.toNat ([],0) l z.1 z.2 hl hq
structure gF(f:dC):Prop where
 cols:f.Cols.length<=255
 len:f.Nodes.length<=255
 n: ∀n∈f.Nodes,gD n
def Nw:jk LU Ov gF:=by
 refine jk.bind kq (P2:=fun a f=>f.At=a/\gF f) (e2:=fun a f=>(Ov f).drop 1) (fun a _=>?_) fun a f _ h=>⟨by rw [<-h.1];rfl,h.2⟩;refine jk.bind kq (P2:=fun w f=>f.At=a/\f.Way=w/\gF f) (e2:=fun a f=>(Ov f).drop 2) (fun w _=>?_) fun w f _ h=>⟨by rw [<-h.2.1];rfl,h.1,h.2.2⟩;refine jk.bind CS (P2:=fun cs f=>f.At=a/\f.Way=w/\f.Cols=cs/\f.Nodes.length<=255/\ ∀n∈f.Nodes,gD n) (e2:=fun _ f=>IntKind.u8.wrap (f.Nodes.length:Int)::f.Nodes.flatMap yl) (fun cs _=>?_) fun cs f hc h=>⟨by rw [<-h.2.2.1];simp [Ov],h.1,h.2.1,by rw [h.2.2.1];exact hc.1,h.2.2.2.1,h.2.2.2.2⟩;refine jk.bind kq (P2:=fun n f=>f.At=a/\f.Way=w/\f.Cols=cs/\f.Nodes.length=n.toNat/\ ∀n∈f.Nodes,gD n) (e2:=fun _ f=>f.Nodes.flatMap yl) (fun n _=>(H0 n).map fun ns h=>⟨rfl,rfl,rfl,rfl,h.1,h.2⟩) ?_
 rintro n f ⟨q1,q2⟩ ⟨Y,H,s,h4,h5⟩
 have e:(f.Nodes.length:Int)=n:=by omega
 exact⟨by rw [e];rfl,Y,H,s,by omega,h5⟩
structure gP(p:da):Prop where
 len:p.Frags.length<=255
 f: ∀f∈p.Frags,gF f
def Nr:jk LR Nv gP:=(wg Nw).map fun fs h=>⟨rfl,h.1,h.2⟩
end Go.Proofs.YtdohlidddcgfjaaGreat


/- bO of this claim: H13. -/
set_option linter.all false
namespace Go.Proofs.YtdohlidddcgfjaaGreat
open Go

structure ZE(e:aR):Prop where
 len:e.Nodes.length<=60000
 str: ∀n∈e.Nodes,n.Value.S.length<=100
structure ZD(n:aa):Prop where
 cond:ZE n.Cond
 item: ∀e∈n.Items,ZE e
 arg: ∀a∈n.Aggs,ZE a.Arg
def xd{α:Type}{f:α->List Int}(x:α)(l:List α):((x::l).flatMap f).length=(f x).length+(l.flatMap f).length:=by rw [DV,kJ]
def ST(e:aR):(eB e).length=2+(e.Nodes.flatMap nB).length:=by unfold eB;rw [kJ,gN]
def Hs: ∀(l:List ap) (b:List Int),(∀n∈l,n.Value.S.length<=100)->(∀n∈l,n.Tag=1->gr n.Value=true)->b.length+(l.flatMap nB).length<=50000000000->dI l (W0 b)=some (W0 (b++l.flatMap nB))
 |[],b,_,_,_=>by unfold dI;simp
 |n::l,b,hs,hv,h=>by
  have ih:=fun b W=>Hs l b (fun m hm=>hs m (o4 _ hm)) (fun m hm=>hv m (o4 _ hm)) W
  have hn:=hs n (nQ ..)
  have hnv:=hv n (nQ ..)
  have hln:=UH hn
  rw [xd]at h
  have hpos:1<=(nB n).length:=by simp [-List.length_flatMap,nB]
  have key: ∀t:List Int,IntKind.u8.wrap n.Tag::t=nB n->dI l (W0 ((b++tE [n.Tag])++t))=some (W0 (b++(n::l).flatMap nB)):=fun t D=>by
   rw [oB,show tE [n.Tag]++t=nB n from D,ih _ (by simp [-List.length_flatMap];omega),oB,DV]
  unfold dI
  rw [lK b _ (by simp [-List.length_flatMap];omega),bg]
  by_cases H:n.Tag=2
  ·rw [bo (by simp [-List.length_flatMap,H]),lK _ _ (by simp [-List.length_flatMap,tE];omega),bg]
   exact key _ (by unfold nB;rw [bo H];rfl)
  ·rw [aV (by simpa using H)]
   by_cases Y:n.Tag=1
   ·have hvl:=FV n.Value
    rw [bo (by simp [-List.length_flatMap,Y]),wI _ (by omega),bo (hnv Y),bg]
    show((jh (b++tE [n.Tag]) (vB n.Value)).bind _)=_
    rw [cE (by simp [-List.length_flatMap,tE];omega),bg]
    exact key _ (by unfold nB;rw [aV H,bo Y])
   ·rw [aV (by simpa using Y)]
    have:=key [] (by unfold nB;rw [aV H,aV Y])
    rwa [tv]at this
def Lz(b:List Int)(e:aR)(hs:ZE e)(hv:VE e)(h:b.length+(eB e).length<=50000000000):ij (W0 b) e=some (W0 (b++eB e)):=by
 have:=hs.len
 rw [ST]at h
 unfold ij
 show((pi b _).bind _)=_
 rw [wk b _ (by omega),bg,Tn (by omega)]
 show dI e.Nodes (W0 _)=_
 rw [Hs e.Nodes _ hs.str hv (by simp [-List.length_flatMap,gN];omega),oB]
 rfl
def EH: ∀(l:List fI) (b:List Int),(∀a∈l,ZE a.Arg)->(∀a∈l,VE a.Arg)->b.length+(l.flatMap QP).length<=50000000000->go l (W0 b)=some (W0 (b++l.flatMap QP))
 |[],b,_,_,_=>by unfold go;simp
 |a::l,b,hs,hv,h=>by
  rw [xd]at h
  have hl:(QP a).length=(eB a.Arg).length+1:=by simp [-List.length_flatMap,QP]
  unfold go
  rw [lK b _ (by simp [-List.length_flatMap];omega),bg,Lz _ a.Arg (hs a (nQ ..)) (hv a (nQ ..)) (by simp [-List.length_flatMap,tE];omega),bg,oB]
  rw [show tE [a.Tag]++eB a.Arg=QP a from rfl,EH l _ (fun m hm=>hs m (o4 _ hm)) (fun m hm=>hv m (o4 _ hm)) (by simp [-List.length_flatMap];omega),oB,DV]
def Ue(b:List Int)(n:aa)(hs:ZD n)(hv: ∀a∈n.Aggs,VE a.Arg)(h:b.length+(Ju n.Keys++IntKind.u8.wrap (n.Aggs.length:Int)::n.Aggs.flatMap QP).length<=50000000000):dQ (W0 b) n=some (W0 (b++(Ju n.Keys++IntKind.u8.wrap (n.Aggs.length:Int)::n.Aggs.flatMap QP))):=by
 rw [kJ,iR,s4]at h
 unfold dQ
 rw [ON b _ (by omega),bg,lK _ _ (by simp [-List.length_flatMap,s4];omega),bg,EH n.Aggs _ hs.arg hv (by simp [-List.length_flatMap,s4,tE];omega),oB,oB]
 rfl
def AZ: ∀(l:List aR) (b:List Int),(∀a∈l,ZE a)->(∀a∈l,VE a)->b.length+(l.flatMap eB).length<=50000000000->fN l (W0 b)=some (W0 (b++l.flatMap eB))
 |[],b,_,_,_=>by unfold fN;simp
 |a::l,b,hs,hv,h=>by
  rw [xd]at h
  unfold fN
  rw [Lz _ a (hs a (nQ ..)) (hv a (nQ ..)) (by omega),bg]
  rw [AZ l _ (fun m hm=>hs m (o4 _ hm)) (fun m hm=>hv m (o4 _ hm)) (by simp [-List.length_flatMap];omega),oB,DV]
def OB(b:List Int)(n:aa)(hs:ZD n)(hv: ∀a∈n.Items,VE a)(h:b.length+(IntKind.u8.wrap (n.Items.length:Int)::n.Items.flatMap eB).length<=50000000000):fR (W0 b) n=some (W0 (b++IntKind.u8.wrap (n.Items.length:Int)::n.Items.flatMap eB)):=by
 rw [iR]at h
 unfold fR
 rw [lK _ _ (by simp [-List.length_flatMap];omega),bg,AZ n.Items _ hs.item hv (by simp [-List.length_flatMap,tE];omega),oB]
 rfl
def TZ(b:List Int)(n:aa)(h:b.length+(IntKind.u8.wrap (n.Order.length:Int)::(n.Order.flatMap Tm++Gt n)).length<=20000000000):gK (W0 b) n=some (W0 (b++IntKind.u8.wrap (n.Order.length:Int)::(n.Order.flatMap Tm++Gt n))):=by
 have e:(n.Order.flatMap Tm).length=2*n.Order.length:=by
  generalize n.Order=l
  induction l with
  |nil=>rfl
  |cons x l ih=>rw [xd,ih,iR];simp [-List.length_flatMap,Tm];omega
 rw [iR,kJ,e]at h
 unfold gK
 rw [lK _ _ (by simp [-List.length_flatMap];omega),bg,EI n n.Order _ (by simp [-List.length_flatMap,tE];omega),oB]
 rfl
def Ho(nx:aP->Option aP): ∀(l:List aa) (b:List Int),(∀n∈l,ZD n)->(∀n∈l,VN n)->b.length+(l.flatMap yl).length<=15000000000->ed nx l (W0 b)=nx (W0 (b++l.flatMap yl))
 |[],b,_,_,_=>by unfold ed;simp
 |n::l,b,hs,hv,h=>by
  have ih:=fun b W=>Ho nx l b (fun m hm=>hs m (o4 _ hm)) (fun m hm=>hv m (o4 _ hm)) W
  have hn:=hs n (nQ ..)
  have hnv:=hv n (nQ ..)
  rw [xd]at h
  have hln:(yl n).length=(xu n).length+1:=by simp [-List.length_flatMap,yl]
  have hb0:(b++tE [n.Op]).length=b.length+1:=by simp [-List.length_flatMap,tE]
  have key: ∀t:List Int,t=xu n->ed nx l (W0 ((b++tE [n.Op])++t))=nx (W0 (b++(n::l).flatMap yl)):=fun t D=>by
   subst D
   rw [oB,show tE [n.Op]++xu n=yl n from rfl,ih _ (by simp [-List.length_flatMap];omega),oB,DV]
  unfold ed
  rw [lK b _ (by simp [-List.length_flatMap];omega),bg,WB]
  generalize hc:b++tE [n.Op]=c at hb0 key ⊢
  by_cases Y:n.Op=1
  ·rw [bo Y,bo (by rfl)]
   show(((eM (W0 c) n).map _).bind _)=_
   have hcn:xu n=IntKind.u8.wrap n.Table::Ju n.Kinds:=by unfold xu;rw [bo (.inl Y)]
   rw [map_some (Tf c n (by rw [hcn,iR,s4]at hln;omega)),bg]
   exact key _ hcn.symm
  by_cases h9:n.Op=9
  ·rw [aV Y,bo h9,bo (by rfl)]
   show(((eM (W0 c) n).map _).bind _)=_
   have hcn:xu n=IntKind.u8.wrap n.Table::Ju n.Kinds:=by unfold xu;rw [bo (.inr h9)]
   rw [map_some (Tf c n (by rw [hcn,iR,s4]at hln;omega)),bg]
   exact key _ hcn.symm
  have h19: ¬(n.Op=1\/n.Op=9):=by omega
  by_cases H:n.Op=2
  ·rw [aV Y,aV h9,bo H,bo (by rfl)]
   show(((ii (W0 c) n).map _).bind _)=_
   have hcn:xu n=fB n.Left::eB n.Cond:=by unfold xu;rw [aV h19,bo H]
   rw [hcn,iR]at hln
   have hj:ii (W0 c) n=some (W0 (c++fB n.Left::eB n.Cond)):=by
    unfold ii
    rw [LB c _ (by omega),bg,Lz _ _ hn.cond (hnv.cond (.inl H)) (by simp [-List.length_flatMap];omega),bg,oB];rfl
   rw [map_some hj,bg]
   exact key _ (by unfold xu;rw [aV h19,bo H])
  by_cases s:n.Op=3
  ·rw [aV Y,aV h9,aV H,bo s,bo (by rfl)]
   show(((gh (W0 c) n).map _).bind _)=_
   have hcn:xu n=eB n.Cond:=by unfold xu;rw [aV h19,aV H,bo s]
   rw [hcn]at hln
   have hj:gh (W0 c) n=some (W0 (c++eB n.Cond)):=by
    unfold gh
    rw [Lz _ _ hn.cond (hnv.cond (.inr s)) (by omega),bg]
   rw [map_some hj,bg]
   exact key _ (by unfold xu;rw [aV h19,aV H,bo s])
  have V:(n.Op=4\/n.Op=10\/n.Op=11)->((dQ (W0 c) n).map fun mr=>((),mr)).bind (fun r5=>(ed nx l) r5.2)=nx (W0 (b++(n::l).flatMap yl)):=fun V=>by
   have hcn:xu n=Ju n.Keys++IntKind.u8.wrap (n.Aggs.length:Int)::n.Aggs.flatMap QP:=by unfold xu;rw [aV h19,aV H,aV s,bo V]
   rw [map_some (Ue c n hn (hnv.arg V) (by rw [hcn]at hln;omega)),bg]
   exact key _ (by unfold xu;rw [aV h19,aV H,aV s,bo V])
  by_cases h4:n.Op=4
  ·rw [aV Y,aV h9,aV H,aV s,bo h4,bo (by rfl)]
   exact V (.inl h4)
  by_cases h10:n.Op=10
  ·rw [aV Y,aV h9,aV H,aV s,aV h4,bo h10,bo (by rfl)]
   exact V (.inr (.inl h10))
  by_cases h11:n.Op=11
  ·rw [aV Y,aV h9,aV H,aV s,aV h4,aV h10,bo h11,bo (by rfl)]
   exact V (.inr (.inr h11))
  have h4n: ¬(n.Op=4\/n.Op=10\/n.Op=11):=by omega
  by_cases h5:n.Op=5
  ·rw [aV Y,aV h9,aV H,aV s,aV h4,aV h10,aV h11,bo h5,bo (by rfl)]
   show(((fR (W0 c) n).map _).bind _)=_
   have hcn:xu n=IntKind.u8.wrap (n.Items.length:Int)::n.Items.flatMap eB:=by unfold xu;rw [aV h19,aV H,aV s,aV h4n,bo h5]
   rw [map_some (OB c n hn (hnv.item h5) (by rw [hcn]at hln;omega)),bg]
   exact key _ (by unfold xu;rw [aV h19,aV H,aV s,aV h4n,bo h5])
  by_cases h8:n.Op=8
  ·rw [aV Y,aV h9,aV H,aV s,aV h4,aV h10,aV h11,aV h5,bo h8,bo (by rfl)]
   show(((gK (W0 c) n).map _).bind _)=_
   have hcn:xu n=IntKind.u8.wrap (n.Order.length:Int)::(n.Order.flatMap Tm++Gt n):=by unfold xu;rw [aV h19,aV H,aV s,aV h4n,aV h5,bo h8]
   rw [map_some (TZ c n (by rw [hcn]at hln;omega)),bg]
   exact key _ (by unfold xu;rw [aV h19,aV H,aV s,aV h4n,aV h5,bo h8])
  ·rw [aV Y,aV h9,aV H,aV s,aV h4,aV h10,aV h11,aV h5,aV h8,aV (by simp)]
   have:=key [] (by unfold xu;rw [aV h19,aV H,aV s,aV h4n,aV h5,aV h8])
   rwa [tv]at this
def Hp: ∀(l:List dC) (b:List Int),(∀f∈l,∀n∈f.Nodes,ZD n)->(∀f∈l,∀n∈f.Nodes,VN n)->b.length+(l.flatMap Ov).length<=10000000000->fS l (W0 b)=some (W0 (b++l.flatMap Ov))
 |[],b,_,_,_=>by unfold fS;simp
 |f::l,b,hs,hv,h=>by
  have hf:=hs f (nQ ..)
  rw [xd]at h
  have hfl:(Ov f).length=4+f.Cols.length+(f.Nodes.flatMap yl).length:=by simp [-List.length_flatMap,Ov,s4];omega
  unfold fS
  rw [lK b _ (by simp [-List.length_flatMap];omega),bg,ON _ _ (by simp [-List.length_flatMap,tE];omega),bg,lK _ _ (by simp [-List.length_flatMap,tE,s4];omega),bg,Ho _ f.Nodes _ hf (hv f (nQ ..)) (by simp [-List.length_flatMap,tE,s4];omega)]
  rw [show((b++tE [f.At,f.Way])++Ju f.Cols++tE [(f.Nodes.length:Int)])++f.Nodes.flatMap yl=b++Ov f by simp [-List.length_flatMap,Ov,tE]]
  rw [Hp l _ (fun m hm=>hs m (o4 _ hm)) (fun m hm=>hv m (o4 _ hm)) (by simp [-List.length_flatMap];omega),oB,DV]
def Wa(b:List Int)(p:da)(hs: ∀f∈p.Frags,∀n∈f.Nodes,ZD n)(hv: ∀f∈p.Frags,∀n∈f.Nodes,VN n)(h:b.length+(Nv p).length<=1000000000):kY (W0 b) p=some (W0 (b++Nv p)):=by
 have hp:(Nv p).length=1+(p.Frags.flatMap Ov).length:=by simp [-List.length_flatMap,Nv];omega
 unfold kY
 rw [lK _ _ (by simp [-List.length_flatMap];omega),bg,Hp p.Frags _ hs hv (by simp [-List.length_flatMap,tE];omega),oB]
 rfl
end Go.Proofs.YtdohlidddcgfjaaGreat


/- bO of this claim: H14. -/
set_option linter.all false
namespace Go.Proofs.YtdohlidddcgfjaaGreat
open Go

def II{f:dC}(h:gF f)(hl:f.Nodes.length<=90):rC f.Nodes:=by
 refine⟨hl,fun n hn=>?_⟩
 have k:=h.n n hn
 have:=k.cond.1;have:=k.kinds;have:=k.keys;have:=k.order;have:=k.items;have:=k.aggs
 exact⟨by omega,by omega,by omega,by omega,by omega,by omega,fun g V=>(k.arg g V).1,fun e he=>(k.item e he).1⟩
def Fg{f:dC}(h:gF f): ∃r,jI f.Nodes=some r/\(r.2.2=0-> ∀n∈f.Nodes,VN n):=by
 by_cases hc:((decide ((f.Nodes.length:Int)<(1:Int)))||(decide ((60:Int)<(f.Nodes.length:Int))))=true
 ·unfold jI
  rw [bo hc]
  exact⟨_,rfl,fun h=>by simp at h⟩
 ·have hl:f.Nodes.length<=90:=by
   simp only [z6,mg,not_or]at hc
   omega
  obtain⟨out,w,e,Y,H⟩:=Ll (II h hl)
  refine⟨_,Y,fun h0=>?_⟩
  have h0:e=0:=h0
  subst h0
  exact QW (II h hl) Y
def PS{e:aR}(h:gX e):ZE e:=⟨by have:=h.1;omega,fun n hn=>by have:=h.2 n hn;unfold gS at this;omega⟩
def WM{n:aa}(h:gD n):ZD n:=⟨PS h.cond,fun e he=>PS (h.item e he),fun a ha=>PS (h.arg a ha)⟩
end Go.Proofs.YtdohlidddcgfjaaGreat


/- bO of this claim: H16. -/
set_option linter.all false
namespace Go.Proofs.YtdohlidddcgfjaaGreat
open Go

def Cm{α:Type}(p:Pr α)(l:List Int)(x:α):Prop:= ∀r,p (l++r)=some (x,r)
def Cm.bind{α β:Type}{p:Pr α}{q:α->Pr β}{l m:List Int}{x:α}{y:β}(Y:Cm p l x)(H:Cm (q x) m y):Cm (dM p q) (l++m) y:=fun r=>by
 unfold dM
 rw [oB,Y,bg]
 exact H r
def Cm.map{α β:Type}{p:Pr α}{l:List Int}{x:α}(f:α->β)(Y:Cm p l x):Cm (pu f p) l (f x):=fun r=>by
 unfold pu
 rw [Y];rfl
def Zq(x:Int):Prop:= -9223372036854775808<=x/\x<=9223372036854775807
def Zp(x:Int):Prop:=0<=x/\x<=18446744073709551615
structure rgV(v:am):Prop where
 n:Zq v.N
 u:Zp v.U
def Zn(e:aR):Prop:= ∀n∈e.Nodes,rgV n.Value
end Go.Proofs.YtdohlidddcgfjaaGreat


/- bO of this claim: H17. -/
set_option linter.all false
namespace Go.Proofs.YtdohlidddcgfjaaGreat
open Go

def PR(e:aR):Prop:=mY e.Nodes=true\/e.Nodes.length=0
structure GN(n:aa):Prop where
 lB:0<=lB n.Op
 own:sZ n=true
 scan:n.Op=1\/n.Op=9->om n.Table/\n.Kinds.length<=255/\ ∀k∈n.Kinds,om k
 cond:n.Op=2\/n.Op=3->PR n.Cond
 grp:n.Op=4\/n.Op=10\/n.Op=11->n.Keys.length<=255/\(∀k∈n.Keys,om k)/\n.Aggs.length<=255/\ ∀a∈n.Aggs,om a.Tag/\PR a.Arg
 prj:n.Op=5->n.Items.length<=255/\ ∀e∈n.Items,PR e
 V1:n.Op=8->n.Order.length<=255/\(∀o∈n.Order,om o.Col)/\ -1<=n.Limit/\n.Limit<=2147483647
def Frs:List aa->Nat->List Int->Prop
 |[],_,_=>True
 |e::tl,i,st=>VY e st/\GN e/\Frs tl (i+1) ((i:Int)::st.drop (lB e.Op).toNat)
section
variable{ns:List aa}{l:al}{i:Nat}
end
end Go.Proofs.YtdohlidddcgfjaaGreat


/- bO of this claim: H18. -/
set_option linter.all false
namespace Go.Proofs.YtdohlidddcgfjaaGreat
open Go

structure rgD(n:aa):Prop where
 cond:Zn n.Cond
 item: ∀e∈n.Items,Zn e
 arg: ∀a∈n.Aggs,Zn a.Arg
def rgP(p:da):Prop:= ∀f∈p.Frags,∀n∈f.Nodes,rgD n
structure goodF(f:dC):Prop where
 at_:om f.At
 way:om f.Way
 cols:f.Cols.length<=255/\ ∀c∈f.Cols,om c
 len:f.Nodes.length<=255
 ns:Frs f.Nodes 0 []
end Go.Proofs.YtdohlidddcgfjaaGreat


/- bO of this claim: H21. -/
set_option linter.all false
namespace Go.Proofs.YtdohlidddcgfjaaGreat
open Go

section
variable{b:List Int}
def L7{α:Type}{f:cy->ae->Option (α×cy×ae)}{p:Pr α}(hf:Rd b f p)(N:Int)(hN:N<=65535){L:Nat->List α->Int->cy->ae->Option (List α×cy×ae)}
  (hL: ∀fu out x r o,L (fu+1) out x r o=if decide (x<N)=true then(dR r o).bind fun c=>if c=true then(f r o).bind fun u=>(jh out [u.1]).bind fun out2=>L fu out2 (IntKind.i64.wrap (x+1)) u.2.1 u.2.2 else some (out,r,o)else some (out,r,o)):
  Rd b (fun r o=>L eQ [] 0 r o) (pl p N.toNat):=by
 have h:=zk hf.toE (fun _ _ _=>Kl) (fun _ _=>Km) N hN () trivial (L:=fun fu out x r o _=>(L fu out x r o).map fun q=>(q.1,q.2.1,q.2.2,())) (by
  intro fu out x r o e
  cases e
  simp only [hL]
  by_cases X:decide (x<N)=true
  ·simp only [X,jl]
   cases dR r o with
   |none=>rfl
   |some c=>
    cases c with
    |false=>rfl
    |true=>
     simp only [bg,rk,nj,kQ,jl]
     cases f r o with
     |none=>rfl
     |some q=>
      simp only [bg,oD]
      cases jh out [q.1]<;>rfl
  ·simp only [X];rfl)
 have e:(fun l=>(pe (fun(_:Unit) l=>(p l).map fun u=>((u.1,()),u.2)) N.toNat () l).map fun u=>(u.1.1,u.2))=pl p N.toNat:=funext fun l=>BM p N.toNat l
 rw [e]at h
 refine h.congr fun r o=>?_
 cases L eQ [] 0 r o<;>rfl
end
def RA:Pr (List am):=dM p8 fun n=>dM (xJ (decide (n<=16))) fun _=>pl pv n.toNat
def Ba:Pr (List (List am)):=dM Y9 fun n=>dM (xJ (decide (n<=400))) fun _=>pl RA n.toNat
def OR{ρ:Type}{r r' :ρ}{o o' :ae}{x:Int}(h:OS r o=some (x,r',o')):om x:=by
 unfold OS at h
 cases hq:cb o with
 |none=>rw [hq]at h;cases h
 |some q=>
  rw [hq]at h
  cases h
  unfold cb at hq
  cases hw:cd o 1 with
  |none=>rw [hw]at hq;cases hq
  |some w=>
   rw [hw]at hq
   cases hq
   unfold om
   rw [z7,qd]
   omega
section
variable{b:List Int}(W:b.length<=900000000)(hby:sF b)
include W hby
def Rl(N:Int)(hN:N<=65535):Rd b (fun t o=>fi t o N) (pl pv N.toNat):=
 L7 (Hy W hby) N hN (L:=hE N) fun _ _ _ _ _=>rfl
def Uo:Rd b oO RA:=by
 have:=ut (g:=fun n t o=>(uf (decide (n<=16)) t o).bind fun u=>fi u.2.1 u.2.2 n) om (fun _ _ _ _ _=>OR) (LF (ρ:=cy) W hby) fun n hn=>Rd.bind (g:=fun _ t o=>fi t o n) (zh _) fun _=>Rl W hby n (by unfold om at hn;omega)
 refine this.congr fun t o=>?_
 unfold oO OS uf
 cases cb o with
 |none=>rfl
 |some q=>
  simp only [bg,oD]
  cases cA t q.2 (decide (IntKind.i64.wrap q.1<=16))with
  |none=>rfl
  |some t1=>
   simp only [bg,oD]
   cases fi t1 q.2 (IntKind.i64.wrap q.1)<;>rfl
def Rz(N:Int)(hN:N<=65535):Rd b (fun t o=>gb t o N) (pl RA N.toNat):=
 L7 (Uo W hby) N hN (L:=iH N) fun _ _ _ _ _=>rfl
def RT:Rd b oh Ba:=by
 have:=ut (g:=fun n t o=>(uf (decide (n<=400)) t o).bind fun u=>gb u.2.1 u.2.2 n) OM (fun _ _ _ _ _=>HB) (OV (ρ:=cy) W hby) fun n hn=>Rd.bind (g:=fun _ t o=>gb t o n) (zh _) fun _=>Rz W hby n hn.2
 refine this.congr fun t o=>?_
 unfold oh MY uf
 cases gW o with
 |none=>rfl
 |some q=>
  simp only [bg,oD]
  cases cA t q.2 (decide (IntKind.i64.wrap q.1<=400))with
  |none=>rfl
  |some t1=>
   simp only [bg,oD]
   cases gb t1 q.2 (IntKind.i64.wrap q.1)<;>rfl
end
def JQ{l:List Int}(hl:l.length<=900000000){v:List (List am)}{t:cy}{o:ae}(h:Jw l (Ba l) v t o): ∃q,lH t o v=some q/\Je l Ba q:=by
 unfold Jw at h
 unfold Je lH
 cases hp:Ba l with
 |none=>
  rw [hp]at h
  obtain⟨_,k,y,rfl,H,s⟩:=h
  have s:t.bad=true\/y≠0:=s
  cases W:t.bad with
  |true=>exact⟨_,rfl,show(160:Int)≠0 by decide⟩
  |false=>
   have hy:y≠0:=by rcases s with h|h;rw [W]at h;cases h;exact h
   rw [aV (by simp),tQ,bg,bo (by simpa using hy),bg]
   exact⟨_,rfl,hy⟩
 |some w=>
  rw [hp]at h
  obtain⟨rfl,k,⟨g1,g2,rfl,g4⟩,g5⟩:=h
  have g1:t.all=(l.length:Int):=g1
  have g2:t.bad=false:=g2
  rw [g2,aV (by simp),tQ,bg,aV (by simp),xl 0 g4 (by omega),bg]
  refine⟨_,rfl,k,g4,?_,g5.symm⟩
  rw [g1,qd]
  have:(l.length:Int)-((l.length-k:Nat):Int)=(k:Int):=by omega
  rw [this]
  have:((k:Int)+9223372036854775808)%18446744073709551616-9223372036854775808=(k:Int):=by omega
  simp [this]
def xS{l:List Int}(hl:l.length<=900000000)(hby:sF l): ∃q,mb l=some q/\Je l Ba q:=by
 unfold mb
 rw [xQ hl,bg]
 obtain⟨v,t,o,Y,H⟩:=(RT hl hby).ok 0 ⟨rj,(l.length:Int),false⟩ (rd l 0 0) ⟨rfl,rfl,rfl,by omega⟩
 rw [Y,bg]
 obtain⟨q,s,h4⟩:=JQ hl H
 rw [s]
 exact⟨q,rfl,h4⟩
def Gx(r:aJ)(o:ae):Option (List (List am)×aJ×ae):=(il r o).bind fun l=>(mb l).bind fun q=>(fD r o q.2.1 q.2.2).bind fun h3=>some (q.1,h3.1,h3.2)
def PW{b:List Int}(W:b.length<=900000000)(hby:sF b):Rd b Gx Ba:=by
 refine⟨fun k r o hk=>?_,fun r o hn=>?_⟩
 ·obtain⟨Y,H,rfl,h4⟩:=hk
  obtain⟨q,g1,g2⟩:=xS (l:=b.drop k) (by simp;omega) (uo hby k)
  obtain⟨r',o',g3,g4⟩:=(BG W g2).1 r ⟨Y,H,rfl,h4⟩
  unfold Gx
  rw [BI W Y 0 h4,bg,g1,bg,g3]
  exact⟨_,_,_,rfl,g4⟩
 ·have hn' :=hn
  obtain⟨Y,k,y,rfl,h4,h5⟩:=hn
  obtain⟨q,g1,g2⟩:=xS (l:=b.drop k) (by simp;omega) (uo hby k)
  obtain⟨r',o',g3,g4⟩:=(BG W g2).2 r y h4 hn' h5
  unfold Gx
  rw [BI W Y y h4,bg,g1,bg,g3]
  exact⟨_,_,_,rfl,g4⟩
def AO{ρ:Type} [GX ρ]{b:List Int}{α:Type}{f g:ρ->ae->Option (α×ρ×ae)}{p q:Pr α}(c:Bool)(hf:Rd b f p)(V:Rd b g q):Rd b (fun r o=>if c=true then f r o else g r o) (if c=true then p else q):=by
 cases c with
 |true=>exact hf
 |false=>exact V
def Gk(kind:Int):Pr aO:=dM Y8 fun h3=>dM (pw 8) fun q=>
 if(kind==2)=true then pu (fun l=>(⟨kind,h3,q,l,⟨[],false,0⟩⟩:aO)) (pw 8)
 else dM Bb fun e=>if e=true then pu (fun c=>(⟨kind,h3,q,0,⟨[],e,c⟩⟩:aO)) (pw 8)else pu (fun l=>(⟨kind,h3,q,0,⟨l,e,0⟩⟩:aO)) Ba
def E3{b:List Int}(W:b.length<=900000000)(hby:sF b)(kind:Int):Rd b (fun r o=>jP r o kind) (Gk kind):=by
 have h64:=FY (ρ:=aJ) W hby
 have:=(OT (ρ:=aJ) W hby).bind fun h3=>h64.bind fun q=>AO (kind==2) (h64.map fun l=>(⟨kind,h3,q,l,⟨[],false,0⟩⟩:aO))
  ((BQ W hby).bind fun e=>AO e (h64.map fun c=>(⟨kind,h3,q,0,⟨[],e,c⟩⟩:aO)) ((GY (fun _ _ _=>Fa) (fun _ _=>Fb) [] (PW W hby)).map fun l=>(⟨kind,h3,q,0,⟨l,e,0⟩⟩:aO)))
 refine this.congr fun r o=>?_
 unfold jP OU FZ A2 Gx jX
 cases ka o with
 |none=>rfl
 |some x=>
  simp only [bg,oD]
  cases dl x.2 with
  |none=>rfl
  |some y=>
   simp only [bg,oD]
   by_cases hk:(kind==2)=true
   ·simp only [hk,jl]
    cases dl y.2<;>rfl
   ·simp only [hk,kQ,nj]
    cases hf:eN r y.2 with
    |none=>rfl
    |some e=>
     obtain⟨e,r1,o1⟩:=e
     simp only [bg]
     cases e with
     |true=>
      simp only [jl]
      cases dl o1<;>rfl
     |false=>
      simp only [nj,kQ]
      cases cV r1 o1 with
      |none=>rfl
      |some c=>
       cases c with
       |false=>rfl
       |true=>
        simp only [bg,jl]
        cases il r1 o1 with
        |none=>rfl
        |some l=>
         simp only [bg]
         cases mb l with
         |none=>rfl
         |some q=>
          simp only [bg]
          cases fD r1 o1 q.2.1 q.2.2<;>rfl
abbrev Tc:aO:=⟨0,0,0,0,⟨[],false,0⟩⟩
def Kg(k f t e:Int):Pr ci:=
 if(k==1)=true then dM p8 fun h3=>pu (fun p=>(⟨k,f,t,e,0,h3,p,Tc,0⟩:ci)) LR
 else if(k==3)=true then dM p8 fun g=>pu (fun p=>(⟨k,f,t,e,g,0,⟨[]⟩,p,0⟩:ci)) (Gk 1)
 else if(k==4)=true then dM p8 fun g=>pu (fun p=>(⟨k,f,t,e,g,0,⟨[]⟩,p,0⟩:ci)) (Gk 2)
 else if(k==5)=true then pu (fun c:Bool=>(⟨k,f,t,e,0,0,⟨[]⟩,Tc,if c=true then 300 else 140⟩:ci)) Bb
 else fun l=>some (⟨k,f,t,e,0,0,⟨[]⟩,Tc,0⟩,l)
def Pj:Pr ci:=dM p8 fun k=>dM p8 fun f=>dM p8 fun t=>dM p8 fun e=>Kg k f t e
def Kt{b:List Int}(W:b.length<=900000000)(hby:sF b):Rd b k8 Pj:=by
  have hs:=nm W hby
  have:=hs.bind fun k=>hs.bind fun f=>hs.bind fun t=>hs.bind fun e=>AO (k==1) (hs.bind fun h3=>(RC W hby).map fun p=>(⟨k,f,t,e,0,h3,p,Tc,0⟩:ci))
    (AO (k==3) (hs.bind fun g=>(E3 W hby 1).map fun p=>(⟨k,f,t,e,g,0,⟨[]⟩,p,0⟩:ci))
    (AO (k==4) (hs.bind fun g=>(E3 W hby 2).map fun p=>(⟨k,f,t,e,g,0,⟨[]⟩,p,0⟩:ci))
    (AO (k==5) ((BQ W hby).map fun c=>(⟨k,f,t,e,0,0,⟨[]⟩,Tc,if c=true then 300 else 140⟩:ci))
      (GZ (⟨k,f,t,e,0,0,⟨[]⟩,Tc,0⟩:ci)))))
  refine this.congr fun r o=>?_
  unfold k8 lg
  cases aM r o with
  |none=>rfl
  |some k=>
  simp only [bg,oD]
  cases aM r k.2 with
  |none=>rfl
  |some f=>
  simp only [bg,oD]
  cases aM r f.2 with
  |none=>rfl
  |some t=>
  simp only [bg,oD]
  cases aM r t.2 with
  |none=>rfl
  |some e=>
  simp only [bg,oD]
  by_cases Y:(k.1==1)=true
  · simp only [Y,jl]
    cases aM r e.2 with
    |none=>rfl
    |some h3=>
      simp only [bg,oD]
  simp only [Y,kQ,nj]
  by_cases s:(k.1==3)=true
  · simp only [s,jl]
    cases aM r e.2 with
    |none=>rfl
    |some h3=>
      simp only [bg,oD]
  simp only [s,kQ,nj]
  by_cases h4:(k.1==4)=true
  · simp only [h4,jl]
    cases aM r e.2 with
    |none=>rfl
    |some h3=>
      simp only [bg,oD]
  simp only [h4,kQ,nj]
  by_cases h5:(k.1==5)=true
  · simp only [h5,jl]
    cases eN r e.2 with
    |none=>rfl
    |some c=>
      simp only [bg]
      cases c.1<;>rfl
  · simp only [h5,kQ,nj]
end Go.Proofs.YtdohlidddcgfjaaGreat


/- bO of this claim: H22. -/
set_option linter.all false
namespace Go.Proofs.YtdohlidddcgfjaaGreat
open Go

def rgR(r:List am):Prop:= ∀v∈r,rgV v
def Zo(l:List (List am)):Prop:= ∀r∈l,rgR r
structure rgM(m:ci):Prop where
 p:rgP m.Plan
 r:Zo m.Packet.Batch.Rows
end Go.Proofs.YtdohlidddcgfjaaGreat


/- bO of this claim: H23. -/
set_option linter.all false
namespace Go.Proofs.YtdohlidddcgfjaaGreat
open Go

def jk.imp{α:Type}{p:Pr α}{enc enc' :α->List Int}{good good' :α->Prop}(h:jk p enc good)(e: ∀x,good x->enc' x=enc x/\good' x):jk p enc' good' :=fun l x r hl X=>by
 obtain⟨a,b,c⟩:=h l x r hl X
 exact⟨by rw [(e x b).1];exact a,(e x b).2,c⟩
def Pe:jk RA Th (fun r=>ou r=true):=by
 refine jk.bind kq (e2:=fun _ r=>r.flatMap vB) (P2:=fun n r=>n<=16/\r.length=n.toNat/\ ∀v∈r,gv v) (fun n hn=>jk.bind (P2:=fun _ r=>r.length=n.toNat/\ ∀v∈r,gv v) (e2:=fun _ r=>r.flatMap vB) jk.need (fun _ _=>Gh Pd n.toNat) (fun _ r hc h=>⟨rfl,by simpa using hc,h⟩)) ?_
 rintro n r ⟨Y,H⟩ ⟨s,h4,h5⟩
 have e:(r.length:Int)=n:=by omega
 refine⟨by unfold Th;rw [e];rfl,?_⟩
 unfold ou
 simp only [nP,mg,lw]
 exact⟨by omega,fun v hv=>(h5 v hv).1⟩
def Up{r:List am}(h:ou r=true):O9 r=(Th r,0):=by
 unfold ou at h
 simp only [nP,mg,lw]at h
 unfold O9
 rw [aV (by omega),bo (lw.2 h.2)]
def PB: ∀(l:List (List am)) (i:Nat) (b:List Int),(∀r∈l,ou r=true)->Q5 l i b=(b++l.flatMap Th,0,0)
 |[],i,b,_=>by simp [Q5]
 |r::l,i,b,h=>by
  unfold Q5
  rw [Up (h r (nQ ..)),bo rfl,PB l (i+1) _ fun x X=>h x (o4 _ X),DV,oB]
def Mg(l:List (List am)):Prop:=l.length<=400/\ ∀r∈l,ou r=true
def Nu:jk Ba (fun l=>(RS l).1) Mg:=by
 refine jk.bind LV (e2:=fun _ l=>l.flatMap Th) (P2:=fun n l=>n<=400/\l.length=n.toNat/\ ∀r∈l,ou r=true) (fun n hn=>jk.bind (P2:=fun _ l=>l.length=n.toNat/\ ∀r∈l,ou r=true) (e2:=fun _ l=>l.flatMap Th) jk.need (fun _ _=>Gh Pe n.toNat) (fun _ r hc h=>⟨rfl,by simpa using hc,h⟩)) ?_
 rintro n l ⟨Y,H⟩ ⟨s,h4,h5⟩
 have e:(l.length:Int)=n:=by omega
 refine⟨?_,by omega,h5⟩
 unfold RS
 rw [PB l 0 _ h5,e]
def Wo{h3:Int}(h:0<=h3/\h3<4294967296):IntKind.u64.wrap h3=h3:=by rw [Bs];omega
def Nz:jk (Gk 1) xP (fun p=>Mg p.Batch.Rows):=by
 unfold Gk
 refine jk.bind Gl (P2:=fun h3 p=>p.Session=h3/\Mg p.Batch.Rows) (e2:=fun h3 p=>(xP p).drop 4) (fun h3 hs=>?_) (fun h3 p hs h=>⟨?_,h.2⟩)
 ·refine jk.bind (tI 8) (P2:=fun q p=>p.Session=h3/\p.Seq=q/\Mg p.Batch.Rows) (e2:=fun q p=>fB p.Batch.End::(if p.Batch.End then ev p.Batch.Count 8 else(RS p.Batch.Rows).1)) (fun q hq=>?_) (fun q p hq h=>⟨?_,h.1,h.2.2⟩)
  ·rw [aV (by decide)]
   refine jk.bind w3 (P2:=fun e p=>p.Session=h3/\p.Seq=q/\p.Batch.End=e/\Mg p.Batch.Rows) (e2:=fun e p=>if p.Batch.End then ev p.Batch.Count 8 else(RS p.Batch.Rows).1) (fun e _=>?_) (fun e p _ h=>⟨by rw [<-h.2.2.1];rfl,h.1,h.2.1,h.2.2.2⟩)
   cases e with
   |true=>
    rw [bo rfl]
    exact(tI 8).map fun c hc=>⟨rfl,rfl,rfl,rfl,by simp [Mg]⟩
   |false=>
    rw [aV (by simp)]
    exact Nu.map fun l hl=>⟨rfl,rfl,rfl,rfl,hl⟩
  ·unfold xP
   rw [h.2.1,oB,List.drop_left' (gN _ _)]
 ·unfold xP
  rw [h.1,Wo hs,oB,List.drop_left' (gN _ _)]
def Ny:jk (Gk 2) Jd (fun p=>Mg p.Batch.Rows):=by
 unfold Gk
 refine jk.bind Gl (P2:=fun h3 p=>p.Session=h3/\Mg p.Batch.Rows) (e2:=fun h3 p=>ev p.Seq 8++ev p.Limit 8) (fun h3 hs=>?_) (fun h3 p hs h=>⟨?_,h.2⟩)
 ·refine jk.bind (tI 8) (P2:=fun q p=>p.Session=h3/\p.Seq=q/\Mg p.Batch.Rows) (e2:=fun q p=>ev p.Limit 8) (fun q hq=>?_) (fun q p hq h=>⟨by rw [h.2.1],h.1,h.2.2⟩)
  rw [bo (by decide)]
  exact(tI 8).map fun c hc=>⟨rfl,rfl,rfl,by simp [Mg]⟩
 ·unfold Jd
  rw [h.1,Wo hs,oB]
structure gM(m:ci):Prop where
 p:gP m.Plan
 pl:(Nv m.Plan).length<=5000
 r:Mg m.Packet.Batch.Rows
def Zd:gP ⟨[]⟩:=⟨by simp,fun f hf=>by cases hf⟩
def UQ:Mg []:=by simp [Mg]
def RD:(Nv ⟨[]⟩).length<=5000:=by simp [Nv]
def Nx(k f t e:Int):jk (Kg k f t e) (fun m=>if k=1 then IntKind.u8.wrap m.Sites::Nv m.Plan else if k=3 then IntKind.u8.wrap m.Frag::xP m.Packet else if k=4 then IntKind.u8.wrap m.Frag::Jd m.Packet else if k=5 then [fB (m.Err==300)]else []) (fun m=>m.Kind=k/\m.From=f/\m.To=t/\m.Epoch=e/\gM m):=by
 unfold Kg
 by_cases k1:k=1
 ·rw [bo (by simpa using k1)]
  have h:=jk.bind kq (q:=fun h3=>pu (fun p=>(⟨k,f,t,e,0,h3,p,Tc,0⟩:ci)) LR) (e2:=fun _ m=>Nv m.Plan) (P2:=fun h3 m=>m.Sites=h3/\(m.Kind=k/\m.From=f/\m.To=t/\m.Epoch=e/\gM m)) (enc:=fun m=>[IntKind.u8.wrap m.Sites]++Nv m.Plan) (good:=fun m=>m.Kind=k/\m.From=f/\m.To=t/\m.Epoch=e/\gM m) (fun h3 _=>Nr.size.map fun p hp=>⟨rfl,rfl,rfl,rfl,rfl,rfl,hp.1,hp.2,UQ⟩) (fun h3 m _ h=>⟨by rw [h.1],h.2⟩)
  exact h.imp fun m hm=>⟨by rw [bo k1];rfl,hm⟩
 rw [aV (by simpa using k1)]
 by_cases k3:k=3
 ·rw [bo (by simpa using k3)]
  have h:=jk.bind kq (q:=fun g=>pu (fun p=>(⟨k,f,t,e,g,0,⟨[]⟩,p,0⟩:ci)) (Gk 1)) (e2:=fun _ m=>xP m.Packet) (P2:=fun h3 m=>m.Frag=h3/\(m.Kind=k/\m.From=f/\m.To=t/\m.Epoch=e/\gM m)) (enc:=fun m=>[IntKind.u8.wrap m.Frag]++xP m.Packet) (good:=fun m=>m.Kind=k/\m.From=f/\m.To=t/\m.Epoch=e/\gM m) (fun h3 _=>Nz.map fun p hp=>⟨rfl,rfl,rfl,rfl,rfl,rfl,Zd,RD,hp⟩) (fun h3 m _ h=>⟨by rw [h.1],h.2⟩)
  exact h.imp fun m hm=>⟨by rw [aV k1,bo k3];rfl,hm⟩
 rw [aV (by simpa using k3)]
 by_cases k4:k=4
 ·rw [bo (by simpa using k4)]
  have h:=jk.bind kq (q:=fun g=>pu (fun p=>(⟨k,f,t,e,g,0,⟨[]⟩,p,0⟩:ci)) (Gk 2)) (e2:=fun _ m=>Jd m.Packet) (P2:=fun h3 m=>m.Frag=h3/\(m.Kind=k/\m.From=f/\m.To=t/\m.Epoch=e/\gM m)) (enc:=fun m=>[IntKind.u8.wrap m.Frag]++Jd m.Packet) (good:=fun m=>m.Kind=k/\m.From=f/\m.To=t/\m.Epoch=e/\gM m) (fun h3 _=>Ny.map fun p hp=>⟨rfl,rfl,rfl,rfl,rfl,rfl,Zd,RD,hp⟩) (fun h3 m _ h=>⟨by rw [h.1],h.2⟩)
  exact h.imp fun m hm=>⟨by rw [aV k1,aV k3,bo k4];rfl,hm⟩
 rw [aV (by simpa using k4)]
 by_cases k5:k=5
 ·rw [bo (by simpa using k5)]
  have h:=w3.map (f:=fun c:Bool=>(⟨k,f,t,e,0,0,⟨[]⟩,Tc,if c=true then 300 else 140⟩:ci)) (enc:=fun m=>[fB (m.Err==300)]) (good:=fun m=>m.Kind=k/\m.From=f/\m.To=t/\m.Epoch=e/\gM m) fun c _=>⟨by cases c<;>rfl,rfl,rfl,rfl,rfl,Zd,RD,UQ⟩
  exact h.imp fun m hm=>⟨by rw [aV k1,aV k3,aV k4,bo k5],hm⟩
 rw [aV (by simpa using k5)]
 exact DA _ (by simp only;rw [aV k1,aV k3,aV k4,aV k5]) ⟨rfl,rfl,rfl,rfl,Zd,RD,UQ⟩
def Pi:jk Pj Ot gM:=by
 refine jk.bind kq (P2:=fun k m=>m.Kind=k/\gM m) (e2:=fun _ m=>(Ot m).drop 1) (fun k _=>?_) (fun k m _ h=>⟨by rw [<-h.1];rfl,h.2⟩);refine jk.bind kq (P2:=fun f m=>m.Kind=k/\m.From=f/\gM m) (e2:=fun _ m=>(Ot m).drop 2) (fun f _=>?_) (fun f m _ h=>⟨by rw [<-h.2.1];rfl,h.1,h.2.2⟩);refine jk.bind kq (P2:=fun t m=>m.Kind=k/\m.From=f/\m.To=t/\gM m) (e2:=fun _ m=>(Ot m).drop 3) (fun t _=>?_) (fun t m _ h=>⟨by rw [<-h.2.2.1];rfl,h.1,h.2.1,h.2.2.2⟩);refine jk.bind kq (P2:=fun e m=>m.Kind=k/\m.From=f/\m.To=t/\m.Epoch=e/\gM m) (e2:=fun _ m=>(Ot m).drop 4) (fun e _=>?_) (fun e m _ h=>⟨by rw [<-h.2.2.2.1];rfl,h.1,h.2.1,h.2.2.1,h.2.2.2.2⟩);exact(Nx k f t e).imp fun m h=>⟨by rw [<-h.1];rfl,h⟩
def Ds{a b:List Int}(ha:sF a)(W:sF b):lc a b=some (decide (a=b)):=by
 unfold lc
 congr 1
 rw [vI,qQ,mg]
 refine⟨fun h=>?_,fun h=>by rw [h]⟩
 have:=congrArg lI h
 rwa [(qS ha).1,(qS W).1]at this
def sl(b:List Int):List Int:=(mq b).getD []
def FB: ∀k n,sF (y5 n k)
 |0,_=>fun x X=>by cases X
 |k+1,n=>fun x X=>by
  rcases j8.1 X with rfl|X
  ·exact⟨n%256,by omega,rfl⟩
  ·exact FB k _ x X
def sv(b:List Int):Nat:=4294967295-b.foldl (fun r x=>Fu r x.toNat) 4294967295
def HM{b:List Int}(W:sF b)(hl:b.length<=50000000000):mq b=some (sl b)/\sF (sl b)/\sl b=b++y5 (sv b) 4:=by
 have Y:mq b=some (b++y5 (sv b) 4):=by
  obtain⟨h3,_,H,s⟩:=EO b 4294967295 (by omega) W
  have h4:wT b=some ((sv b:Nat):Int):=by
   unfold wT sv
   rw [O0,bg,<-H]
   exact s
  unfold mq nM
  rw [h4,bg,cE (by simp;omega),bg,bg,mo,LJ 4 _ b (by omega)]
 have e:sl b=b++y5 (sv b) 4:=by unfold sl;rw [Y];rfl
 exact⟨by rw [Y,e],by rw [e];exact Lf W (FB 4 _),e⟩
def JS{b:List Int}(W:sF b)(hl:b.length<=50000000000):(sl b).length=b.length+4/\(sl b).take b.length=b:=by
 obtain⟨_,_,h⟩:=HM W hl
 rw [h]
 exact⟨by rw [kJ,O8],List.take_left' rfl⟩
def S9{b:List Int}(W:sF b)(hl:b.length<=900000000):qi b=some (if b.length<4 then([],7)else if sl (b.take (b.length-4))=b then(b.take (b.length-4),0)else([],130)):=by
 unfold qi
 rw [ew (by omega) (by omega)]
 by_cases h:b.length<4
 ·rw [bo (by rw [mg];omega),bo h]
 ·rw [aV (by rw [mg];omega),aV h,jy 0 (b.length-4) (show(0:Int)=((0:Nat):Int)from rfl) (by omega) (by omega) (by omega),bg,z2]
  have hbt:=zQ W (b.length-4)
  obtain⟨Y,H,_⟩:=HM hbt (by simp;omega)
  have hc:nM (b.take (b.length-4))=some (b.take (b.length-4)):=by
   unfold nM
   rw [cE (by simp;omega)];rfl
  rw [hc,bg,Y,bg,Ds H W,bg]
  by_cases he:sl (b.take (b.length-4))=b
  ·rw [bo he,aV (by simp [he])]
  ·rw [aV he,bo (by simp [he])]
def zM:ci:=⟨0,0,0,0,0,0,⟨[]⟩,⟨0,0,0,0,⟨[],false,0⟩⟩,0⟩
def Og{b c:List Int}(W:sF b)(hl:b.length<=900000000)(ho:qi c=some (b,0)):ru c=match Pj b with
  |some (m,[])=>(ml m).bind fun q=>some (if q&&decide (c.length<=20000)then(m,0)else(zM,331))
  |_=>some (zM,331):=by
 unfold ru
 rw [ho,bg,aV (by simp)]
 have h0:Ok b 0 (⟨rj,b,false⟩:aJ) (rd b 0 0):=⟨rfl,rfl,rfl,oC _⟩
 obtain⟨x,r1,o1,Y,H⟩:=(Kt hl W).ok 0 _ _ h0
 rw [Eo hl,bg,Y,bg]
 rw [z2]at H
 simp only
 unfold Jw at H
 cases hp:Pj b with
 |none=>
  rw [hp]at H
  rw [QA H]
  rfl
 |some v=>
  obtain⟨v,rest⟩:=v
  rw [hp]at H
  obtain⟨rfl,k,s,h4⟩:=H
  rw [Qz hl s,h4]
  cases rest with
  |nil=>
   simp only [bg]
   cases ml x with
   |none=>rfl
   |some q=>
    cases q with
    |false=>rfl
    |true=>
     show(if(false||decide ((20000:Int)<(c.length:Int)))=true then _ else _)=_
     by_cases hc:c.length<=20000
     ·rw [aV (by simp;omega)]
      show _=some (if(true&&decide (c.length<=20000))=true then _ else _)
      rw [bo (by simpa using hc)]
     ·rw [bo (by simp;omega)]
      show _=some (if(true&&decide (c.length<=20000))=true then _ else _)
      rw [aV (by simpa using hc)]
      rfl
  |cons c l=>rfl
def UL{p:da}(h:gP p):sm p=some (Be p):=Ff p p.Frags fun f hf=>by
 obtain⟨r,Y,_⟩:=Fg (h.f f hf)
 exact⟨r,Y⟩
def PD{p:da}(h:gP p)(hl:Be p=true): ∀f∈p.Frags,∀n∈f.Nodes,VN n:=fun f hf=>by
 obtain⟨r,Y,H⟩:=Fg (h.f f hf)
 refine H ?_
 unfold Be at hl
 simp only [nP,lw]at hl
 have s:=hl.2 f hf
 unfold Fi Za at s
 rw [Y]at s
 simp only [nP,qQ]at s
 exact s.1.1
def Nn{p:aO}(h:sY p=true)(V:Mg p.Batch.Rows):V6 p.Batch.Rows:=by
 have hl:p.Batch.Rows.length<=4:=by
  unfold sY at h
  rw [nP]at h
  have H:=h.2
  by_cases k1:p.Kind=1
  ·rw [bo k1,nP]at H
   have s:=H.2
   unfold GV at s
   split at s
   ·cases s
   ·split at s
    ·simp only [nP,qQ]at s;omega
    ·unfold BH at s
     simp only [nP,qQ,mg]at s;omega
  ·rw [aV k1]at H
   by_cases k2:p.Kind=2
   ·rw [bo k2]at H
    simp only [nP,qQ,mg]at H
    omega
   ·rw [aV k2]at H;cases H
 refine⟨by omega,fun r hr=>?_⟩
 have h5:=V.2 r hr
 unfold ou at h5
 simp only [nP,mg,lw]at h5
 refine⟨by omega,fun v hv=>?_⟩
 have hv' :=h5.2 v hv
 obtain⟨k,n,u,h3⟩:=v
 unfold gr ny at hv'
 simp only at hv' ⊢
 by_cases k0:k=0
 ·simp [k0]at hv';simp [hv']
 by_cases k1:k=1
 ·simp [k1]at hv';simp [hv']
 by_cases k2:k=2
 ·simp [k2]at hv';simp [hv']
 by_cases k3:k=3
 ·simp [k3]at hv';omega
 ·simp [k0,k1,k2,k3]at hv';simp [hv']
def LM{m:ci}(h:gM m):ml m=some (vV m):=Em m (UL h.p)
def Uh{m:ci}(h:gM m)(hr:vV m=true):gY (W0 []) m=some (W0 (Ot m)):=
 JF m (fun b W hl=>Wa b m.Plan (fun f hf n hn=>WM ((h.p.f f hf).n n hn)) (PD h.p hl) (by have:=h.pl;omega)) (fun _ hp=>Nn hp h.r) hr
def QX{m:ci}(h:gM m)(hr:vV m=true)(W:sF (Ot m))(hl:(Ot m).length<=19996):oc m=some (sl (Ot m),0):=by
 unfold oc
 rw [LM h,hr,bg,aV (by simp)]
 show((gY (W0 []) m).bind _)=_
 rw [Uh h hr,bg]
 show((mq (Ot m)).bind _)=_
 rw [(HM W (by omega)).1,bg,aV (by rw [(JS W (by omega)).1,mg];omega)]
def S8{b:List Int}(W:sF b)(hl:b.length<=800000000):qi (sl b)=some (b,0):=by
 obtain⟨Y,H⟩:=JS W (by omega)
 rw [S9 (HM W (by omega)).2.1 (by omega),Y,aV (by omega),Nat.add_sub_cancel,H,bo rfl]
def Ay(b:List Int)(hby:sF b):m7 b=some true:=by
 unfold m7
 rw [Rk,bg,aV (by simp)]
 by_cases hl:(5000:Int)<(b.length:Int)
 ·rw [bo (by simpa using hl)]
 ·rw [aV (by simpa using hl),cE (by simp;omega),bg,mo,(HM hby (by omega)).1,bg,Og hby (by omega) (S8 hby (by omega))]
  have no: ∀x:Option (ci×Int),x=some (zM,331)->(x.bind fun r2=>if(r2.2 !=(0:Int))=true then some ((r2.2==(331:Int))&&(r2.1.Kind==(0:Int)))else(oc r2.1).bind fun r3=>(if(r3.2==(0:Int))=true then((lc (sl b) r3.1).bind fun r4=>some r4)else some false).bind fun t=>some t)=some true:=by
   rintro x rfl
   rfl
  cases hp:Pj b with
  |none=>exact no _ rfl
  |some u=>
   obtain⟨m,rest⟩:=u
   cases rest with
   |cons c r=>exact no _ rfl
   |nil=>
    obtain⟨g1,g2,g3⟩:=Pi b m [] ⟨hby,by omega⟩ hp
    rw [tv]at g1
    simp only [LM g2,bg]
    have hlen:=(JS hby (by omega)).1
    cases hr:vV m with
    |false=>exact no _ rfl
    |true=>
     rw [show(true&&decide ((sl b).length<=20000))=true from by simp;omega,bo rfl]
     subst g1
     rw [aV (by simp),QX g2 hr hby (by omega),bg,bo (by simp),AL]
     rfl
end Go.Proofs.YtdohlidddcgfjaaGreat


/- bO of this claim: H24. -/
set_option linter.all false
namespace Go.Proofs.YtdohlidddcgfjaaGreat
open Go

def Ex{α:Type}(p:Pr α):Prop:= ∀l x r h3,p l=some (x,r)->p (l++h3)=some (x,r++h3)
def Ex.bind{α β:Type}{p:Pr α}{q:α->Pr β}(Y:Ex p)(H: ∀x,Ex (q x)):Ex (dM p q):=by
 intro l y r h3 h
 unfold dM at h ⊢
 cases hp:p l with
 |none=>rw [hp]at h;cases h
 |some u=>
  rw [hp,bg]at h
  rw [Y l u.1 u.2 h3 hp,bg]
  exact H u.1 u.2 y r h3 h
def Ex.map{α β:Type}{p:Pr α}(f:α->β)(Y:Ex p):Ex (pu f p):=by
 intro l y r h3 h
 unfold pu at h ⊢
 cases hp:p l with
 |none=>rw [hp]at h;cases h
 |some u=>
  rw [hp]at h
  cases h
  rw [Y l u.1 u.2 h3 hp];rfl
end Go.Proofs.YtdohlidddcgfjaaGreat


/- bO of this claim: H25. -/
set_option linter.all false
namespace Go.Proofs.YtdohlidddcgfjaaGreat
open Go

end Go.Proofs.YtdohlidddcgfjaaGreat


/- bO of this claim: H26. -/
set_option linter.all false
namespace Go.Proofs.YtdohlidddcgfjaaGreat
open Go

def PM{b:List Int}(h:Zt (WH .u8) b):sF b:=fun x X=>by
 obtain⟨Y,H⟩:=h.2 x X
 have Y:(0:Int)<=x:=Y
 have H:x<=255:=H
 exact⟨x.toNat,by omega,by omega⟩
def zt(b:List Int)(h:Zt (WH .u8) b):m7 b=some true:=Ay b (PM h)
end Go.Proofs.YtdohlidddcgfjaaGreat

