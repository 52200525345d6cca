import Derived.Test.YtdohlidddcgfjaaGreatFgV3
import Derived.Test.YtdohlidddcgfjaaGreatFgV4
set_option linter.all false
namespace Go.Proofs.YtdohlidddcgfjaaGreat
open Go
structure aD where
 Kind:Int
 N:Int
 U:Int
 S:Xo
 deriving DecidableEq,Inhabited
def bh:Rp aD:=sI (dj (rI .i64) (dj (rI .i64) (dj (rI .u64) rS))) (fun x=>(x.Kind,x.N,x.U,x.S))
def kS:lO bh 0 (rI .i64) (fun x=>x.Kind):=(dA cx)
def wS:fd bh 0 (rI .i64) (fun x y=>{x with Kind:=y}):=bO ck (fun _ _=>rfl)
def pC:lO bh 1 (rI .i64) (fun x=>x.N):=(dA (aG cx rfl))
def q5:fd bh 1 (rI .i64) (fun x y=>{x with N:=y}):=bO (au ck rfl) (fun _ _=>rfl)
def xb:lO bh 2 (rI .u64) (fun x=>x.U):=(dA (aG (aG cx rfl) rfl))
def CV:fd bh 2 (rI .u64) (fun x y=>{x with U:=y}):=bO (au (au ck rfl) rfl) (fun _ _=>rfl)
def ru:lO bh 3 rS (fun x=>x.S):=(aG (aG (aG cx rfl) rfl) rfl)
def CU:fd bh 3 rS (fun x y=>{x with S:=y}):=bO (au (au (au aq rfl) rfl) rfl) (fun _ _=>rfl)
def ge: ∀S,bh.rc S [.int .i64 0,.int .i64 0,.int .u64 0,.string ⟨#[]⟩] ((⟨(0:Int),(0:Int),(0:Int),[]⟩:aD)):=fun _=>⟨[.int .i64 0],[.int .i64 0,.int .u64 0,.string ⟨#[]⟩],rfl,rfl,⟨[.int .i64 0],[.int .u64 0,.string ⟨#[]⟩],rfl,rfl,⟨[.int .u64 0],[.string ⟨#[]⟩],rfl,rfl,rfl⟩⟩⟩
structure bw where
 Tag:Int
 L:Int
 R:Int
 o_:Int
 Value:aD
 deriving DecidableEq,Inhabited
def bG:Rp bw:=sI (dj (rI .i64) (dj (rI .i64) (dj (rI .i64) (dj (rI .i64) bh)))) (fun x=>(x.Tag,x.L,x.R,x.o_,x.Value))
def eY:lO bG 0 (rI .i64) (fun x=>x.Tag):=(dA cx)
def zj:fd bG 0 (rI .i64) (fun x y=>{x with Tag:=y}):=bO ck (fun _ _=>rfl)
def rC:lO bG 1 (rI .i64) (fun x=>x.L):=(dA (aG cx rfl))
def th:fd bG 1 (rI .i64) (fun x y=>{x with L:=y}):=bO (au ck rfl) (fun _ _=>rfl)
def pD:lO bG 2 (rI .i64) (fun x=>x.R):=(dA (aG (aG cx rfl) rfl))
def tg:fd bG 2 (rI .i64) (fun x y=>{x with R:=y}):=bO (au (au ck rfl) rfl) (fun _ _=>rfl)
def j8:lO bG 3 (rI .i64) (fun x=>x.o_):=(dA (aG (aG (aG cx rfl) rfl) rfl))
def CW:fd bG 3 (rI .i64) (fun x y=>{x with o_:=y}):=bO (au (au (au ck rfl) rfl) rfl) (fun _ _=>rfl)
def oo:lO bG 4 bh (fun x=>x.Value):=(aG (aG (aG (aG cx rfl) rfl) rfl) rfl)
def Hp:fd bG 4 bh (fun x y=>{x with Value:=y}):=bO (au (au (au (au aq rfl) rfl) rfl) rfl) (fun _ _=>rfl)
def md: ∀S,bG.rc S [.int .i64 0,.int .i64 0,.int .i64 0,.int .i64 0,.int .i64 0,.int .i64 0,.int .u64 0,.string ⟨#[]⟩] ((⟨(0:Int),(0:Int),(0:Int),(0:Int),(⟨(0:Int),(0:Int),(0:Int),[]⟩:aD)⟩:bw)):=fun _=>⟨[.int .i64 0],[.int .i64 0,.int .i64 0,.int .i64 0,.int .i64 0,.int .i64 0,.int .u64 0,.string ⟨#[]⟩],rfl,rfl,⟨[.int .i64 0],[.int .i64 0,.int .i64 0,.int .i64 0,.int .i64 0,.int .u64 0,.string ⟨#[]⟩],rfl,rfl,⟨[.int .i64 0],[.int .i64 0,.int .i64 0,.int .i64 0,.int .u64 0,.string ⟨#[]⟩],rfl,rfl,⟨[.int .i64 0],[.int .i64 0,.int .i64 0,.int .u64 0,.string ⟨#[]⟩],rfl,rfl,ge _⟩⟩⟩⟩
structure bQ where
 i':(List bw)
 deriving DecidableEq,Inhabited
def bT:Rp bQ:=sI (gE bG) (fun x=>(x.i'))
def fD:lO bT 0 (gE bG) (fun x=>x.i'):=cx
def Tu:fd bT 0 (gE bG) (fun x y=>{x with i':=y}):=bO aq (fun _ _=>rfl)
def s4: ∀S,bT.rc S [.slice none 0 0] ((⟨[]⟩:bQ)):=fun _=>⟨none,0,rfl,kE _,mT _,.inl rfl⟩
structure f9 where
 Tag:Int
 Arg:bQ
 deriving DecidableEq,Inhabited
def eO:Rp f9:=sI (dj (rI .i64) bT) (fun x=>(x.Tag,x.Arg))
def je:lO eO 0 (rI .i64) (fun x=>x.Tag):=(dA cx)
def Nm:fd eO 0 (rI .i64) (fun x y=>{x with Tag:=y}):=bO ck (fun _ _=>rfl)
def oX:lO eO 1 bT (fun x=>x.Arg):=(aG cx rfl)
def Nl:fd eO 1 bT (fun x y=>{x with Arg:=y}):=bO (au aq rfl) (fun _ _=>rfl)
def wJ: ∀S,eO.rc S [.int .i64 0,.slice none 0 0] ((⟨(0:Int),(⟨[]⟩:bQ)⟩:f9)):=fun _=>⟨[.int .i64 0],[.slice none 0 0],rfl,rfl,s4 _⟩
structure jJ where
 o_:Int
 Desc:Bool
 deriving DecidableEq,Inhabited
def fI:Rp jJ:=sI (dj (rI .i64) rB) (fun x=>(x.o_,x.Desc))
def yS:lO fI 0 (rI .i64) (fun x=>x.o_):=(dA cx)
def Nh:fd fI 0 (rI .i64) (fun x y=>{x with o_:=y}):=bO ck (fun _ _=>rfl)
def Oo:lO fI 1 rB (fun x=>x.Desc):=(aG cx rfl)
def Ng:fd fI 1 rB (fun x y=>{x with Desc:=y}):=bO (au aq rfl) (fun _ _=>rfl)
def Pc: ∀S,fI.rc S [.int .i64 0,.bool false] ((⟨(0:Int),false⟩:jJ)):=fun _=>⟨[.int .i64 0],[.bool false],rfl,rfl,rfl⟩
structure al where
 Op:Int
 A:Int
 B:Int
 Table:Int
 A':(List Int)
 Left:Bool
 c_:bQ
 v':(List Int)
 u':(List f9)
 D':(List bQ)
 B':(List jJ)
 J':Int
 deriving DecidableEq,Inhabited
def aQ:Rp al:=sI (dj (rI .i64) (dj (rI .i64) (dj (rI .i64) (dj (rI .i64) (dj (gE (rI .i64)) (dj rB (dj bT (dj (gE (rI .i64)) (dj (gE eO) (dj (gE bT) (dj (gE fI) (rI .i64)))))))))))) (fun x=>(x.Op,x.A,x.B,x.Table,x.A',x.Left,x.c_,x.v',x.u',x.D',x.B',x.J'))
def db:lO aQ 0 (rI .i64) (fun x=>x.Op):=(dA cx)
def wT:fd aQ 0 (rI .i64) (fun x y=>{x with Op:=y}):=bO ck (fun _ _=>rfl)
def gH:lO aQ 1 (rI .i64) (fun x=>x.A):=(dA (aG cx rfl))
def m3:fd aQ 1 (rI .i64) (fun x y=>{x with A:=y}):=bO (au ck rfl) (fun _ _=>rfl)
def iR:lO aQ 2 (rI .i64) (fun x=>x.B):=(dA (aG (aG cx rfl) rfl))
def m0:fd aQ 2 (rI .i64) (fun x y=>{x with B:=y}):=bO (au (au ck rfl) rfl) (fun _ _=>rfl)
def jw:lO aQ 3 (rI .i64) (fun x=>x.Table):=(dA (aG (aG (aG cx rfl) rfl) rfl))
def PE:fd aQ 3 (rI .i64) (fun x y=>{x with Table:=y}):=bO (au (au (au ck rfl) rfl) rfl) (fun _ _=>rfl)
def fE:lO aQ 4 (gE (rI .i64)) (fun x=>x.A'):=(dA (aG (aG (aG (aG cx rfl) rfl) rfl) rfl))
def Ho:fd aQ 4 (gE (rI .i64)) (fun x y=>{x with A':=y}):=bO (au (au (au (au ck rfl) rfl) rfl) rfl) (fun _ _=>rfl)
def tt:lO aQ 5 rB (fun x=>x.Left):=(dA (aG (aG (aG (aG (aG cx rfl) rfl) rfl) rfl) rfl))
def PD:fd aQ 5 rB (fun x y=>{x with Left:=y}):=bO (au (au (au (au (au ck rfl) rfl) rfl) rfl) rfl) (fun _ _=>rfl)
def lX:lO aQ 6 bT (fun x=>x.c_):=(dA (aG (aG (aG (aG (aG (aG cx rfl) rfl) rfl) rfl) rfl) rfl))
def Hn:fd aQ 6 bT (fun x y=>{x with c_:=y}):=bO (au (au (au (au (au (au ck rfl) rfl) rfl) rfl) rfl) rfl) (fun _ _=>rfl)
def fv:lO aQ 7 (gE (rI .i64)) (fun x=>x.v'):=(dA (aG (aG (aG (aG (aG (aG (aG cx rfl) rfl) rfl) rfl) rfl) rfl) rfl))
def PC:fd aQ 7 (gE (rI .i64)) (fun x y=>{x with v':=y}):=bO (au (au (au (au (au (au (au ck rfl) rfl) rfl) rfl) rfl) rfl) rfl) (fun _ _=>rfl)
def d6:lO aQ 8 (gE eO) (fun x=>x.u'):=(dA (aG (aG (aG (aG (aG (aG (aG (aG cx rfl) rfl) rfl) rfl) rfl) rfl) rfl) rfl))
def PB:fd aQ 8 (gE eO) (fun x y=>{x with u':=y}):=bO (au (au (au (au (au (au (au (au ck rfl) rfl) rfl) rfl) rfl) rfl) rfl) rfl) (fun _ _=>rfl)
def lW:lO aQ 9 (gE bT) (fun x=>x.D'):=(dA (aG (aG (aG (aG (aG (aG (aG (aG (aG cx rfl) rfl) rfl) rfl) rfl) rfl) rfl) rfl) rfl))
def PA:fd aQ 9 (gE bT) (fun x y=>{x with D':=y}):=bO (au (au (au (au (au (au (au (au (au ck rfl) rfl) rfl) rfl) rfl) rfl) rfl) rfl) rfl) (fun _ _=>rfl)
def gp:lO aQ 10 (gE fI) (fun x=>x.B'):=(dA (aG (aG (aG (aG (aG (aG (aG (aG (aG (aG cx rfl) rfl) rfl) rfl) rfl) rfl) rfl) rfl) rfl) rfl))
def Nj:fd aQ 10 (gE fI) (fun x y=>{x with B':=y}):=bO (au (au (au (au (au (au (au (au (au (au ck rfl) rfl) rfl) rfl) rfl) rfl) rfl) rfl) rfl) rfl) (fun _ _=>rfl)
def lD:lO aQ 11 (rI .i64) (fun x=>x.J'):=(aG (aG (aG (aG (aG (aG (aG (aG (aG (aG (aG cx rfl) rfl) rfl) rfl) rfl) rfl) rfl) rfl) rfl) rfl) rfl)
def Ni:fd aQ 11 (rI .i64) (fun x y=>{x with J':=y}):=bO (au (au (au (au (au (au (au (au (au (au (au aq rfl) rfl) rfl) rfl) rfl) rfl) rfl) rfl) rfl) rfl) rfl) (fun _ _=>rfl)
def jd: ∀S,aQ.rc S [.int .i64 0,.int .i64 0,.int .i64 0,.int .i64 0,.slice none 0 0,.bool false,.slice none 0 0,.slice none 0 0,.slice none 0 0,.slice none 0 0,.slice none 0 0,.int .i64 0] ((⟨(0:Int),(0:Int),(0:Int),(0:Int),[],false,(⟨[]⟩:bQ),[],[],[],[],(0:Int)⟩:al)):=fun _=>⟨[.int .i64 0],[.int .i64 0,.int .i64 0,.int .i64 0,.slice none 0 0,.bool false,.slice none 0 0,.slice none 0 0,.slice none 0 0,.slice none 0 0,.slice none 0 0,.int .i64 0],rfl,rfl,⟨[.int .i64 0],[.int .i64 0,.int .i64 0,.slice none 0 0,.bool false,.slice none 0 0,.slice none 0 0,.slice none 0 0,.slice none 0 0,.slice none 0 0,.int .i64 0],rfl,rfl,⟨[.int .i64 0],[.int .i64 0,.slice none 0 0,.bool false,.slice none 0 0,.slice none 0 0,.slice none 0 0,.slice none 0 0,.slice none 0 0,.int .i64 0],rfl,rfl,⟨[.int .i64 0],[.slice none 0 0,.bool false,.slice none 0 0,.slice none 0 0,.slice none 0 0,.slice none 0 0,.slice none 0 0,.int .i64 0],rfl,rfl,⟨[.slice none 0 0],[.bool false,.slice none 0 0,.slice none 0 0,.slice none 0 0,.slice none 0 0,.slice none 0 0,.int .i64 0],rfl,⟨none,0,rfl,kE _,mT _,.inl rfl⟩,⟨[.bool false],[.slice none 0 0,.slice none 0 0,.slice none 0 0,.slice none 0 0,.slice none 0 0,.int .i64 0],rfl,rfl,⟨[.slice none 0 0],[.slice none 0 0,.slice none 0 0,.slice none 0 0,.slice none 0 0,.int .i64 0],rfl,s4 _,⟨[.slice none 0 0],[.slice none 0 0,.slice none 0 0,.slice none 0 0,.int .i64 0],rfl,⟨none,0,rfl,kE _,mT _,.inl rfl⟩,⟨[.slice none 0 0],[.slice none 0 0,.slice none 0 0,.int .i64 0],rfl,⟨none,0,rfl,kE _,mT _,.inl rfl⟩,⟨[.slice none 0 0],[.slice none 0 0,.int .i64 0],rfl,⟨none,0,rfl,kE _,mT _,.inl rfl⟩,⟨[.slice none 0 0],[.int .i64 0],rfl,⟨none,0,rfl,kE _,mT _,.inl rfl⟩,rfl⟩⟩⟩⟩⟩⟩⟩⟩⟩⟩⟩
structure aE where
 nodes:(List al)
 g':(List (List Int))
 m':(List Int)
 n:al
 a_:(List Int)
 b:(List Int)
 j':(List Int)
 deriving DecidableEq,Inhabited
def ce:Rp aE:=sI (dj (gE aQ) (dj (gE (gE (rI .i64))) (dj (TA:Rp (List Int)) (dj aQ (dj (gE (rI .i64)) (dj (gE (rI .i64)) (gE (rI .i64)))))))) (fun x=>(x.nodes,x.g',x.m',x.n,x.a_,x.b,x.j'))
def Fh:lO ce 0 (gE aQ) (fun x=>x.nodes):=(dA cx)
def Tq:fd ce 0 (gE aQ) (fun x y=>{x with nodes:=y}):=bO ck (fun _ _=>rfl)
def Tn:fd ce 1 (gE (gE (rI .i64))) (fun x y=>{x with g':=y}):=bO (au ck rfl) (fun _ _=>rfl)
def Tm:fd ce 2 (TA:Rp (List Int)) (fun x y=>{x with m':=y}):=bO (au (au ck rfl) rfl) (fun _ _=>rfl)
def ij:lO ce 3 aQ (fun x=>x.n):=(dA (aG (aG (aG cx rfl) rfl) rfl))
def Tl:fd ce 3 aQ (fun x y=>{x with n:=y}):=bO (au (au (au ck rfl) rfl) rfl) (fun _ _=>rfl)
def sf:lO ce 15 (gE (rI .i64)) (fun x=>x.a_):=(dA (aG (aG (aG (aG cx rfl) rfl) rfl) rfl))
def JV:fd ce 15 (gE (rI .i64)) (fun x y=>{x with a_:=y}):=bO (au (au (au (au ck rfl) rfl) rfl) rfl) (fun _ _=>rfl)
def Ko:lO ce 16 (gE (rI .i64)) (fun x=>x.b):=(dA (aG (aG (aG (aG (aG cx rfl) rfl) rfl) rfl) rfl))
def JU:fd ce 16 (gE (rI .i64)) (fun x y=>{x with b:=y}):=bO (au (au (au (au (au ck rfl) rfl) rfl) rfl) rfl) (fun _ _=>rfl)
def Fg:lO ce 17 (gE (rI .i64)) (fun x=>x.j'):=(aG (aG (aG (aG (aG (aG cx rfl) rfl) rfl) rfl) rfl) rfl)
def wz:fd ce 17 (gE (rI .i64)) (fun x y=>{x with j':=y}):=bO (au (au (au (au (au (au aq rfl) rfl) rfl) rfl) rfl) rfl) (fun _ _=>rfl)
def XH: ∀S,ce.rc S [.slice none 0 0,.slice none 0 0,.slice none 0 0,.int .i64 0,.int .i64 0,.int .i64 0,.int .i64 0,.slice none 0 0,.bool false,.slice none 0 0,.slice none 0 0,.slice none 0 0,.slice none 0 0,.slice none 0 0,.int .i64 0,.slice none 0 0,.slice none 0 0,.slice none 0 0] ((⟨[],[],[],(⟨(0:Int),(0:Int),(0:Int),(0:Int),[],false,(⟨[]⟩:bQ),[],[],[],[],(0:Int)⟩:al),[],[],[]⟩:aE)):=fun _=>⟨[.slice none 0 0],[.slice none 0 0,.slice none 0 0,.int .i64 0,.int .i64 0,.int .i64 0,.int .i64 0,.slice none 0 0,.bool false,.slice none 0 0,.slice none 0 0,.slice none 0 0,.slice none 0 0,.slice none 0 0,.int .i64 0,.slice none 0 0,.slice none 0 0,.slice none 0 0],rfl,⟨none,0,rfl,kE _,mT _,.inl rfl⟩,⟨[.slice none 0 0],[.slice none 0 0,.int .i64 0,.int .i64 0,.int .i64 0,.int .i64 0,.slice none 0 0,.bool false,.slice none 0 0,.slice none 0 0,.slice none 0 0,.slice none 0 0,.slice none 0 0,.int .i64 0,.slice none 0 0,.slice none 0 0,.slice none 0 0],rfl,⟨none,0,rfl,kE _,mT _,.inl rfl⟩,⟨[.slice none 0 0],[.int .i64 0,.int .i64 0,.int .i64 0,.int .i64 0,.slice none 0 0,.bool false,.slice none 0 0,.slice none 0 0,.slice none 0 0,.slice none 0 0,.slice none 0 0,.int .i64 0,.slice none 0 0,.slice none 0 0,.slice none 0 0],rfl,⟨_,rfl,rfl⟩,⟨[.int .i64 0,.int .i64 0,.int .i64 0,.int .i64 0,.slice none 0 0,.bool false,.slice none 0 0,.slice none 0 0,.slice none 0 0,.slice none 0 0,.slice none 0 0,.int .i64 0],[.slice none 0 0,.slice none 0 0,.slice none 0 0],rfl,jd _,⟨[.slice none 0 0],[.slice none 0 0,.slice none 0 0],rfl,⟨none,0,rfl,kE _,mT _,.inl rfl⟩,⟨[.slice none 0 0],[.slice none 0 0],rfl,⟨none,0,rfl,kE _,mT _,.inl rfl⟩,⟨none,0,rfl,kE _,mT _,.inl rfl⟩⟩⟩⟩⟩⟩⟩
structure qG where
 Rows:(List (List aD))
 End:Bool
 s_:Int
 deriving DecidableEq,Inhabited
def nN:Rp qG:=sI (dj (gE (gE bh)) (dj rB (rI .u64))) (fun x=>(x.Rows,x.End,x.s_))
def lZ:lO nN 0 (gE (gE bh)) (fun x=>x.Rows):=(dA cx)
def Hs:fd nN 0 (gE (gE bh)) (fun x y=>{x with Rows:=y}):=bO ck (fun _ _=>rfl)
def kT:lO nN 1 rB (fun x=>x.End):=(dA (aG cx rfl))
def Hr:fd nN 1 rB (fun x y=>{x with End:=y}):=bO (au ck rfl) (fun _ _=>rfl)
def lY:lO nN 2 (rI .u64) (fun x=>x.s_):=(aG (aG cx rfl) rfl)
def Hq:fd nN 2 (rI .u64) (fun x y=>{x with s_:=y}):=bO (au (au aq rfl) rfl) (fun _ _=>rfl)
def MK: ∀S,nN.rc S [.slice none 0 0,.bool false,.int .u64 0] ((⟨[],false,(0:Int)⟩:qG)):=fun _=>⟨[.slice none 0 0],[.bool false,.int .u64 0],rfl,⟨none,0,rfl,kE _,mT _,.inl rfl⟩,⟨[.bool false],[.int .u64 0],rfl,rfl,rfl⟩⟩
structure di where
 Kind:Int
 g_:Int
 Seq:Int
 J':Int
 Q':qG
 deriving DecidableEq,Inhabited
def cQ:Rp di:=sI (dj (rI .i64) (dj (rI .u32) (dj (rI .u64) (dj (rI .u64) nN)))) (fun x=>(x.Kind,x.g_,x.Seq,x.J',x.Q'))
def pe:lO cQ 0 (rI .i64) (fun x=>x.Kind):=(dA cx)
def AN:fd cQ 0 (rI .i64) (fun x y=>{x with Kind:=y}):=bO ck (fun _ _=>rfl)
def pd:lO cQ 1 (rI .u32) (fun x=>x.g_):=(dA (aG cx rfl))
def AM:fd cQ 1 (rI .u32) (fun x y=>{x with g_:=y}):=bO (au ck rfl) (fun _ _=>rfl)
def ji:lO cQ 2 (rI .u64) (fun x=>x.Seq):=(dA (aG (aG cx rfl) rfl))
def AL:fd cQ 2 (rI .u64) (fun x y=>{x with Seq:=y}):=bO (au (au ck rfl) rfl) (fun _ _=>rfl)
def lC:lO cQ 3 (rI .u64) (fun x=>x.J'):=(dA (aG (aG (aG cx rfl) rfl) rfl))
def FH:fd cQ 3 (rI .u64) (fun x y=>{x with J':=y}):=bO (au (au (au ck rfl) rfl) rfl) (fun _ _=>rfl)
def dK:lO cQ 4 nN (fun x=>x.Q'):=(aG (aG (aG (aG cx rfl) rfl) rfl) rfl)
def tE:fd cQ 4 nN (fun x y=>{x with Q':=y}):=bO (au (au (au (au aq rfl) rfl) rfl) rfl) (fun _ _=>rfl)
def mJ: ∀S,cQ.rc S [.int .i64 0,.int .u32 0,.int .u64 0,.int .u64 0,.slice none 0 0,.bool false,.int .u64 0] ((⟨(0:Int),(0:Int),(0:Int),(0:Int),(⟨[],false,(0:Int)⟩:qG)⟩:di)):=fun _=>⟨[.int .i64 0],[.int .u32 0,.int .u64 0,.int .u64 0,.slice none 0 0,.bool false,.int .u64 0],rfl,rfl,⟨[.int .u32 0],[.int .u64 0,.int .u64 0,.slice none 0 0,.bool false,.int .u64 0],rfl,rfl,⟨[.int .u64 0],[.int .u64 0,.slice none 0 0,.bool false,.int .u64 0],rfl,rfl,⟨[.int .u64 0],[.slice none 0 0,.bool false,.int .u64 0],rfl,rfl,MK _⟩⟩⟩⟩
structure dl where
 i':(List al)
 At:Int
 Way:Int
 p_:(List Int)
 deriving DecidableEq,Inhabited
def cK:Rp dl:=sI (dj (gE aQ) (dj (rI .i64) (dj (rI .i64) (gE (rI .i64))))) (fun x=>(x.i',x.At,x.Way,x.p_))
def sj:lO cK 0 (gE aQ) (fun x=>x.i'):=(dA cx)
def Tt:fd cK 0 (gE aQ) (fun x y=>{x with i':=y}):=bO ck (fun _ _=>rfl)
def si:lO cK 1 (rI .i64) (fun x=>x.At):=(dA (aG cx rfl))
def JY:fd cK 1 (rI .i64) (fun x y=>{x with At:=y}):=bO (au ck rfl) (fun _ _=>rfl)
def sh:lO cK 2 (rI .i64) (fun x=>x.Way):=(dA (aG (aG cx rfl) rfl))
def JX:fd cK 2 (rI .i64) (fun x y=>{x with Way:=y}):=bO (au (au ck rfl) rfl) (fun _ _=>rfl)
def oW:lO cK 3 (gE (rI .i64)) (fun x=>x.p_):=(aG (aG (aG cx rfl) rfl) rfl)
def JW:fd cK 3 (gE (rI .i64)) (fun x y=>{x with p_:=y}):=bO (au (au (au aq rfl) rfl) rfl) (fun _ _=>rfl)
def pm: ∀S,cK.rc S [.slice none 0 0,.int .i64 0,.int .i64 0,.slice none 0 0] ((⟨[],(0:Int),(0:Int),[]⟩:dl)):=fun _=>⟨[.slice none 0 0],[.int .i64 0,.int .i64 0,.slice none 0 0],rfl,⟨none,0,rfl,kE _,mT _,.inl rfl⟩,⟨[.int .i64 0],[.int .i64 0,.slice none 0 0],rfl,rfl,⟨[.int .i64 0],[.slice none 0 0],rfl,rfl,⟨none,0,rfl,kE _,mT _,.inl rfl⟩⟩⟩⟩
structure iG where
 L':(List dl)
 deriving DecidableEq,Inhabited
def jL:Rp iG:=sI (gE cK) (fun x=>(x.L'))
def kg:lO jL 0 (gE cK) (fun x=>x.L'):=cx
def Ts:fd jL 0 (gE cK) (fun x y=>{x with L':=y}):=bO aq (fun _ _=>rfl)
def Gr: ∀S,jL.rc S [.slice none 0 0] ((⟨[]⟩:iG)):=fun _=>⟨none,0,rfl,kE _,mT _,.inl rfl⟩
structure cH where
 Kind:Int
 f_:Int
 To:Int
 P':Int
 e_:Int
 U':Int
 b_:iG
 C':di
 G_:Int
 deriving DecidableEq,Inhabited
def ew:Rp cH:=sI (dj (rI .i64) (dj (rI .i64) (dj (rI .i64) (dj (rI .i64) (dj (rI .i64) (dj (rI .i64) (dj jL (dj cQ (rI .i64))))))))) (fun x=>(x.Kind,x.f_,x.To,x.P',x.e_,x.U',x.b_,x.C',x.G_))
def nU:lO ew 0 (rI .i64) (fun x=>x.Kind):=(dA cx)
def DN:fd ew 0 (rI .i64) (fun x y=>{x with Kind:=y}):=bO ck (fun _ _=>rfl)
def s0:lO ew 1 (rI .i64) (fun x=>x.f_):=(dA (aG cx rfl))
def DM:fd ew 1 (rI .i64) (fun x y=>{x with f_:=y}):=bO (au ck rfl) (fun _ _=>rfl)
def sZ:lO ew 2 (rI .i64) (fun x=>x.To):=(dA (aG (aG cx rfl) rfl))
def Hl:fd ew 2 (rI .i64) (fun x y=>{x with To:=y}):=bO (au (au ck rfl) rfl) (fun _ _=>rfl)
def rA:lO ew 3 (rI .i64) (fun x=>x.P'):=(dA (aG (aG (aG cx rfl) rfl) rfl))
def DL:fd ew 3 (rI .i64) (fun x y=>{x with P':=y}):=bO (au (au (au ck rfl) rfl) rfl) (fun _ _=>rfl)
def pT:lO ew 4 (rI .i64) (fun x=>x.e_):=(dA (aG (aG (aG (aG cx rfl) rfl) rfl) rfl))
def DK:fd ew 4 (rI .i64) (fun x y=>{x with e_:=y}):=bO (au (au (au (au ck rfl) rfl) rfl) rfl) (fun _ _=>rfl)
def rz:lO ew 5 (rI .i64) (fun x=>x.U'):=(dA (aG (aG (aG (aG (aG cx rfl) rfl) rfl) rfl) rfl))
def Hk:fd ew 5 (rI .i64) (fun x y=>{x with U':=y}):=bO (au (au (au (au (au ck rfl) rfl) rfl) rfl) rfl) (fun _ _=>rfl)
def uw:lO ew 6 jL (fun x=>x.b_):=(dA (aG (aG (aG (aG (aG (aG cx rfl) rfl) rfl) rfl) rfl) rfl))
def Hj:fd ew 6 jL (fun x y=>{x with b_:=y}):=bO (au (au (au (au (au (au ck rfl) rfl) rfl) rfl) rfl) rfl) (fun _ _=>rfl)
def ry:lO ew 7 cQ (fun x=>x.C'):=(dA (aG (aG (aG (aG (aG (aG (aG cx rfl) rfl) rfl) rfl) rfl) rfl) rfl))
def DI:fd ew 7 cQ (fun x y=>{x with C':=y}):=bO (au (au (au (au (au (au (au ck rfl) rfl) rfl) rfl) rfl) rfl) rfl) (fun _ _=>rfl)
def rx:lO ew 14 (rI .i64) (fun x=>x.G_):=(aG (aG (aG (aG (aG (aG (aG (aG cx rfl) rfl) rfl) rfl) rfl) rfl) rfl) rfl)
def DH:fd ew 14 (rI .i64) (fun x y=>{x with G_:=y}):=bO (au (au (au (au (au (au (au (au aq rfl) rfl) rfl) rfl) rfl) rfl) rfl) rfl) (fun _ _=>rfl)
def mU: ∀S,ew.rc S [.int .i64 0,.int .i64 0,.int .i64 0,.int .i64 0,.int .i64 0,.int .i64 0,.slice none 0 0,.int .i64 0,.int .u32 0,.int .u64 0,.int .u64 0,.slice none 0 0,.bool false,.int .u64 0,.int .i64 0] ((⟨(0:Int),(0:Int),(0:Int),(0:Int),(0:Int),(0:Int),(⟨[]⟩:iG),(⟨(0:Int),(0:Int),(0:Int),(0:Int),(⟨[],false,(0:Int)⟩:qG)⟩:di),(0:Int)⟩:cH)):=fun _=>⟨[.int .i64 0],[.int .i64 0,.int .i64 0,.int .i64 0,.int .i64 0,.int .i64 0,.slice none 0 0,.int .i64 0,.int .u32 0,.int .u64 0,.int .u64 0,.slice none 0 0,.bool false,.int .u64 0,.int .i64 0],rfl,rfl,⟨[.int .i64 0],[.int .i64 0,.int .i64 0,.int .i64 0,.int .i64 0,.slice none 0 0,.int .i64 0,.int .u32 0,.int .u64 0,.int .u64 0,.slice none 0 0,.bool false,.int .u64 0,.int .i64 0],rfl,rfl,⟨[.int .i64 0],[.int .i64 0,.int .i64 0,.int .i64 0,.slice none 0 0,.int .i64 0,.int .u32 0,.int .u64 0,.int .u64 0,.slice none 0 0,.bool false,.int .u64 0,.int .i64 0],rfl,rfl,⟨[.int .i64 0],[.int .i64 0,.int .i64 0,.slice none 0 0,.int .i64 0,.int .u32 0,.int .u64 0,.int .u64 0,.slice none 0 0,.bool false,.int .u64 0,.int .i64 0],rfl,rfl,⟨[.int .i64 0],[.int .i64 0,.slice none 0 0,.int .i64 0,.int .u32 0,.int .u64 0,.int .u64 0,.slice none 0 0,.bool false,.int .u64 0,.int .i64 0],rfl,rfl,⟨[.int .i64 0],[.slice none 0 0,.int .i64 0,.int .u32 0,.int .u64 0,.int .u64 0,.slice none 0 0,.bool false,.int .u64 0,.int .i64 0],rfl,rfl,⟨[.slice none 0 0],[.int .i64 0,.int .u32 0,.int .u64 0,.int .u64 0,.slice none 0 0,.bool false,.int .u64 0,.int .i64 0],rfl,Gr _,⟨[.int .i64 0,.int .u32 0,.int .u64 0,.int .u64 0,.slice none 0 0,.bool false,.int .u64 0],[.int .i64 0],rfl,mJ _,rfl⟩⟩⟩⟩⟩⟩⟩⟩
structure kb where
 bytes:(List Int)
 deriving DecidableEq,Inhabited
def tG:Rp kb:=sI (gE (rI .u8)) (fun x=>(x.bytes))
def Nf:fd tG 0 (gE (rI .u8)) (fun x y=>{x with bytes:=y}):=bO aq (fun _ _=>rfl)
def SU: ∀S,tG.rc S [.slice none 0 0] ((⟨[]⟩:kb)):=fun _=>⟨none,0,rfl,kE _,mT _,.inl rfl⟩
structure fx where
 i':(List al)
 deriving DecidableEq,Inhabited
def m5:Rp fx:=sI (gE aQ) (fun x=>(x.i'))
def om:lO m5 0 (gE aQ) (fun x=>x.i'):=cx
def Hm:fd m5 0 (gE aQ) (fun x y=>{x with i':=y}):=bO aq (fun _ _=>rfl)
def MJ: ∀S,m5.rc S [.slice none 0 0] ((⟨[]⟩:fx)):=fun _=>⟨none,0,rfl,kE _,mT _,.inl rfl⟩
structure rJ where
 at_:Int
 why:Int
 deriving DecidableEq,Inhabited
def uh:Rp rJ:=sI (dj (rI .i64) (rI .i64)) (fun x=>(x.at_,x.why))
def xa:lO uh 0 (rI .i64) (fun x=>x.at_):=(dA cx)
def Hi:fd uh 0 (rI .i64) (fun x y=>{x with at_:=y}):=bO ck (fun _ _=>rfl)
def C8:lO uh 1 (rI .i64) (fun x=>x.why):=(aG cx rfl)
def zi:fd uh 1 (rI .i64) (fun x y=>{x with why:=y}):=bO (au aq rfl) (fun _ _=>rfl)
def UX: ∀S,uh.rc S [.int .i64 0,.int .i64 0] ((⟨(0:Int),(0:Int)⟩:rJ)):=fun _=>⟨[.int .i64 0],[.int .i64 0],rfl,rfl,rfl⟩
structure av where
 place:rJ
 own:(List Int)
 deriving DecidableEq,Inhabited
def jB:Rp av:=sI (dj uh (gE (rI .u8))) (fun x=>(x.place,x.own))
def jh:lO jB 0 uh (fun x=>x.place):=(dA cx)
def tB:fd jB 0 uh (fun x y=>{x with place:=y}):=bO ck (fun _ _=>rfl)
def Bg:lO jB 2 (gE (rI .u8)) (fun x=>x.own):=(aG cx rfl)
structure bq where
 Reader:av
 all:(List Int)
 bad:Bool
 deriving DecidableEq,Inhabited
def ax:Rp bq:=sI (dj (TA:Rp av) (dj (gE (rI .u8)) rB)) (fun x=>(x.Reader,x.all,x.bad))
def xW:lO ax 1 (gE (rI .u8)) (fun x=>x.all):=(dA (aG cx rfl))
def xV:lO ax 2 rB (fun x=>x.bad):=(aG (aG cx rfl) rfl)
def xA:fd ax 2 rB (fun x y=>{x with bad:=y}):=bO (au (au aq rfl) rfl) (fun _ _=>rfl)
structure dx where
 Reader:av
 all:Int
 bad:Bool
 deriving DecidableEq,Inhabited
def cz:Rp dx:=sI (dj (TA:Rp av) (dj (rI .i64) rB)) (fun x=>(x.Reader,x.all,x.bad))
def w9:lO cz 1 (rI .i64) (fun x=>x.all):=(dA (aG cx rfl))
def zK:lO cz 2 rB (fun x=>x.bad):=(aG (aG cx rfl) rfl)
def Hh:fd cz 2 rB (fun x y=>{x with bad:=y}):=bO (au (au aq rfl) rfl) (fun _ _=>rfl)
structure bd where
 Bytes:(List Int)
 At:Int
 B_:Bool
 deriving DecidableEq,Inhabited
def dO:Rp bd:=sI (dj (gE (rI .u8)) (dj (rI .i64) rB)) (fun x=>(x.Bytes,x.At,x.B_))
def tS:lO dO 0 (gE (rI .u8)) (fun x=>x.Bytes):=(dA cx)
def Nk:fd dO 0 (gE (rI .u8)) (fun x y=>{x with Bytes:=y}):=bO ck (fun _ _=>rfl)
def nV:lO dO 1 (rI .i64) (fun x=>x.At):=(dA (aG cx rfl))
def AO:fd dO 1 (rI .i64) (fun x y=>{x with At:=y}):=bO (au ck rfl) (fun _ _=>rfl)
def jF:lO dO 2 rB (fun x=>x.B_):=(aG (aG cx rfl) rfl)
def o7:fd dO 2 rB (fun x y=>{x with B_:=y}):=bO (au (au aq rfl) rfl) (fun _ _=>rfl)
def SV: ∀S,dO.rc S [.slice none 0 0,.int .i64 0,.bool false] ((⟨[],(0:Int),false⟩:bd)):=fun _=>⟨[.slice none 0 0],[.int .i64 0,.bool false],rfl,⟨none,0,rfl,kE _,mT _,.inl rfl⟩,⟨[.int .i64 0],[.bool false],rfl,rfl,rfl⟩⟩
structure Xt where
 Kind:Int
 f_:Int
 To:Int
 P':Int
 e_:Int
 U':Int
 b_:Value
 C':di
 G_:Int
def kI:Rp Xt:=sI (dj (rI .i64) (dj (rI .i64) (dj (rI .i64) (dj (rI .i64) (dj (rI .i64) (dj (rI .i64) (dj rV (dj cQ (rI .i64))))))))) (fun x=>(x.Kind,x.f_,x.To,x.P',x.e_,x.U',x.b_,x.C',x.G_))
def Qr:lO kI 0 (rI .i64) (fun x=>x.Kind):=(dA cx)
def Pz:fd kI 0 (rI .i64) (fun x y=>{x with Kind:=y}):=bO ck (fun _ _=>rfl)
def Py:fd kI 1 (rI .i64) (fun x y=>{x with f_:=y}):=bO (au ck rfl) (fun _ _=>rfl)
def Px:fd kI 2 (rI .i64) (fun x y=>{x with To:=y}):=bO (au (au ck rfl) rfl) (fun _ _=>rfl)
def Pw:fd kI 3 (rI .i64) (fun x y=>{x with P':=y}):=bO (au (au (au ck rfl) rfl) rfl) (fun _ _=>rfl)
def Hg:fd kI 4 (rI .i64) (fun x y=>{x with e_:=y}):=bO (au (au (au (au ck rfl) rfl) rfl) rfl) (fun _ _=>rfl)
def Pv:fd kI 5 (rI .i64) (fun x y=>{x with U':=y}):=bO (au (au (au (au (au ck rfl) rfl) rfl) rfl) rfl) (fun _ _=>rfl)
def H0:lO kI 6 rV (fun x=>x.b_):=(dA (aG (aG (aG (aG (aG (aG cx rfl) rfl) rfl) rfl) rfl) rfl))
def Hf:fd kI 7 cQ (fun x y=>{x with C':=y}):=bO (au (au (au (au (au (au (au ck rfl) rfl) rfl) rfl) rfl) rfl) rfl) (fun _ _=>rfl)
def He:fd kI 14 (rI .i64) (fun x y=>{x with G_:=y}):=bO (au (au (au (au (au (au (au (au aq rfl) rfl) rfl) rfl) rfl) rfl) rfl) rfl) (fun _ _=>rfl)
def vD(y:cH)(v6:Value):Xt:=⟨y.Kind,y.f_,y.To,y.P',y.e_,y.U',v6,y.C',y.G_⟩
def UW: ∀S,kI.rc S [.int .i64 0,.int .i64 0,.int .i64 0,.int .i64 0,.int .i64 0,.int .i64 0,.slice none 0 0,.int .i64 0,.int .u32 0,.int .u64 0,.int .u64 0,.slice none 0 0,.bool false,.int .u64 0,.int .i64 0] (vD ((⟨(0:Int),(0:Int),(0:Int),(0:Int),(0:Int),(0:Int),(⟨[]⟩:iG),(⟨(0:Int),(0:Int),(0:Int),(0:Int),(⟨[],false,(0:Int)⟩:qG)⟩:di),(0:Int)⟩:cH)) (aI none 0 0)):=fun _=>⟨[.int .i64 0],[.int .i64 0,.int .i64 0,.int .i64 0,.int .i64 0,.int .i64 0,.slice none 0 0,.int .i64 0,.int .u32 0,.int .u64 0,.int .u64 0,.slice none 0 0,.bool false,.int .u64 0,.int .i64 0],rfl,rfl,⟨[.int .i64 0],[.int .i64 0,.int .i64 0,.int .i64 0,.int .i64 0,.slice none 0 0,.int .i64 0,.int .u32 0,.int .u64 0,.int .u64 0,.slice none 0 0,.bool false,.int .u64 0,.int .i64 0],rfl,rfl,⟨[.int .i64 0],[.int .i64 0,.int .i64 0,.int .i64 0,.slice none 0 0,.int .i64 0,.int .u32 0,.int .u64 0,.int .u64 0,.slice none 0 0,.bool false,.int .u64 0,.int .i64 0],rfl,rfl,⟨[.int .i64 0],[.int .i64 0,.int .i64 0,.slice none 0 0,.int .i64 0,.int .u32 0,.int .u64 0,.int .u64 0,.slice none 0 0,.bool false,.int .u64 0,.int .i64 0],rfl,rfl,⟨[.int .i64 0],[.int .i64 0,.slice none 0 0,.int .i64 0,.int .u32 0,.int .u64 0,.int .u64 0,.slice none 0 0,.bool false,.int .u64 0,.int .i64 0],rfl,rfl,⟨[.int .i64 0],[.slice none 0 0,.int .i64 0,.int .u32 0,.int .u64 0,.int .u64 0,.slice none 0 0,.bool false,.int .u64 0,.int .i64 0],rfl,rfl,⟨[.slice none 0 0],[.int .i64 0,.int .u32 0,.int .u64 0,.int .u64 0,.slice none 0 0,.bool false,.int .u64 0,.int .i64 0],rfl,⟨rfl,rfl⟩,⟨[.int .i64 0,.int .u32 0,.int .u64 0,.int .u64 0,.slice none 0 0,.bool false,.int .u64 0],[.int .i64 0],rfl,mJ _,rfl⟩⟩⟩⟩⟩⟩⟩⟩
structure SN where
 i':Value
 At:Int
 Way:Int
 p_:(List Int)
def pX:Rp SN:=sI (dj rV (dj (rI .i64) (dj (rI .i64) (gE (rI .i64))))) (fun x=>(x.i',x.At,x.Way,x.p_))
def On:lO pX 0 rV (fun x=>x.i'):=(dA cx)
def Nc:fd pX 1 (rI .i64) (fun x y=>{x with At:=y}):=bO (au ck rfl) (fun _ _=>rfl)
def Nb:fd pX 2 (rI .i64) (fun x y=>{x with Way:=y}):=bO (au (au ck rfl) rfl) (fun _ _=>rfl)
def Na:fd pX 3 (gE (rI .i64)) (fun x y=>{x with p_:=y}):=bO (au (au (au aq rfl) rfl) rfl) (fun _ _=>rfl)
def wB(y:dl)(v0:Value):SN:=⟨v0,y.At,y.Way,y.p_⟩
def ST: ∀S,pX.rc S [.slice none 0 0,.int .i64 0,.int .i64 0,.slice none 0 0] (wB ((⟨[],(0:Int),(0:Int),[]⟩:dl)) (aI none 0 0)):=fun _=>⟨[.slice none 0 0],[.int .i64 0,.int .i64 0,.slice none 0 0],rfl,⟨rfl,rfl⟩,⟨[.int .i64 0],[.int .i64 0,.slice none 0 0],rfl,rfl,⟨[.int .i64 0],[.slice none 0 0],rfl,rfl,⟨none,0,rfl,kE _,mT _,.inl rfl⟩⟩⟩⟩
structure SO where
 i':Value
def jA:Rp SO:=sI rV (fun x=>(x.i'))
def tR:lO jA 0 rV (fun x=>x.i'):=cx
def kf(y:bQ)(v0:Value):SO:=⟨v0⟩
def JC: ∀S,jA.rc S [.slice none 0 0] (kf ((⟨[]⟩:bQ)) (aI none 0 0)):=fun _=>⟨rfl,rfl⟩
structure F0 where
 Op:Int
 A:Int
 B:Int
 Table:Int
 A':(List Int)
 Left:Bool
 c_:bQ
 v':(List Int)
 u':Value
 D':(List bQ)
 B':Value
 J':Int
def dm:Rp F0:=sI (dj (rI .i64) (dj (rI .i64) (dj (rI .i64) (dj (rI .i64) (dj (gE (rI .i64)) (dj rB (dj bT (dj (gE (rI .i64)) (dj rV (dj (gE bT) (dj rV (rI .i64)))))))))))) (fun x=>(x.Op,x.A,x.B,x.Table,x.A',x.Left,x.c_,x.v',x.u',x.D',x.B',x.J'))
def Gk:lO dm 0 (rI .i64) (fun x=>x.Op):=(dA cx)
def Gd:fd dm 0 (rI .i64) (fun x y=>{x with Op:=y}):=bO ck (fun _ _=>rfl)
def Gc:fd dm 3 (rI .i64) (fun x y=>{x with Table:=y}):=bO (au (au (au ck rfl) rfl) rfl) (fun _ _=>rfl)
def Gb:fd dm 4 (gE (rI .i64)) (fun x y=>{x with A':=y}):=bO (au (au (au (au ck rfl) rfl) rfl) rfl) (fun _ _=>rfl)
def Ga:fd dm 5 rB (fun x y=>{x with Left:=y}):=bO (au (au (au (au (au ck rfl) rfl) rfl) rfl) rfl) (fun _ _=>rfl)
def Ae:fd dm 6 bT (fun x y=>{x with c_:=y}):=bO (au (au (au (au (au (au ck rfl) rfl) rfl) rfl) rfl) rfl) (fun _ _=>rfl)
def F9:fd dm 7 (gE (rI .i64)) (fun x y=>{x with v':=y}):=bO (au (au (au (au (au (au (au ck rfl) rfl) rfl) rfl) rfl) rfl) rfl) (fun _ _=>rfl)
def Ai:lO dm 8 rV (fun x=>x.u'):=(dA (aG (aG (aG (aG (aG (aG (aG (aG cx rfl) rfl) rfl) rfl) rfl) rfl) rfl) rfl))
def F8:fd dm 9 (gE bT) (fun x y=>{x with D':=y}):=bO (au (au (au (au (au (au (au (au (au ck rfl) rfl) rfl) rfl) rfl) rfl) rfl) rfl) rfl) (fun _ _=>rfl)
def yR:lO dm 10 rV (fun x=>x.B'):=(dA (aG (aG (aG (aG (aG (aG (aG (aG (aG (aG cx rfl) rfl) rfl) rfl) rfl) rfl) rfl) rfl) rfl) rfl))
def EY:fd dm 11 (rI .i64) (fun x y=>{x with J':=y}):=bO (au (au (au (au (au (au (au (au (au (au (au aq rfl) rfl) rfl) rfl) rfl) rfl) rfl) rfl) rfl) rfl) rfl) (fun _ _=>rfl)
def fQ(y:al)(v8:Value)(v10:Value):F0:=⟨y.Op,y.A,y.B,y.Table,y.A',y.Left,y.c_,y.v',v8,y.D',v10,y.J'⟩
def IW: ∀S,dm.rc S [.int .i64 0,.int .i64 0,.int .i64 0,.int .i64 0,.slice none 0 0,.bool false,.slice none 0 0,.slice none 0 0,.slice none 0 0,.slice none 0 0,.slice none 0 0,.int .i64 0] (fQ ((⟨(0:Int),(0:Int),(0:Int),(0:Int),[],false,(⟨[]⟩:bQ),[],[],[],[],(0:Int)⟩:al)) (aI none 0 0) (aI none 0 0)):=fun _=>⟨[.int .i64 0],[.int .i64 0,.int .i64 0,.int .i64 0,.slice none 0 0,.bool false,.slice none 0 0,.slice none 0 0,.slice none 0 0,.slice none 0 0,.slice none 0 0,.int .i64 0],rfl,rfl,⟨[.int .i64 0],[.int .i64 0,.int .i64 0,.slice none 0 0,.bool false,.slice none 0 0,.slice none 0 0,.slice none 0 0,.slice none 0 0,.slice none 0 0,.int .i64 0],rfl,rfl,⟨[.int .i64 0],[.int .i64 0,.slice none 0 0,.bool false,.slice none 0 0,.slice none 0 0,.slice none 0 0,.slice none 0 0,.slice none 0 0,.int .i64 0],rfl,rfl,⟨[.int .i64 0],[.slice none 0 0,.bool false,.slice none 0 0,.slice none 0 0,.slice none 0 0,.slice none 0 0,.slice none 0 0,.int .i64 0],rfl,rfl,⟨[.slice none 0 0],[.bool false,.slice none 0 0,.slice none 0 0,.slice none 0 0,.slice none 0 0,.slice none 0 0,.int .i64 0],rfl,⟨none,0,rfl,kE _,mT _,.inl rfl⟩,⟨[.bool false],[.slice none 0 0,.slice none 0 0,.slice none 0 0,.slice none 0 0,.slice none 0 0,.int .i64 0],rfl,rfl,⟨[.slice none 0 0],[.slice none 0 0,.slice none 0 0,.slice none 0 0,.slice none 0 0,.int .i64 0],rfl,s4 _,⟨[.slice none 0 0],[.slice none 0 0,.slice none 0 0,.slice none 0 0,.int .i64 0],rfl,⟨none,0,rfl,kE _,mT _,.inl rfl⟩,⟨[.slice none 0 0],[.slice none 0 0,.slice none 0 0,.int .i64 0],rfl,⟨rfl,rfl⟩,⟨[.slice none 0 0],[.slice none 0 0,.int .i64 0],rfl,⟨none,0,rfl,kE _,mT _,.inl rfl⟩,⟨[.slice none 0 0],[.int .i64 0],rfl,⟨rfl,rfl⟩,rfl⟩⟩⟩⟩⟩⟩⟩⟩⟩⟩⟩
structure OW where
 Op:Int
 A:Int
 B:Int
 Table:Int
 A':(List Int)
 Left:Bool
 c_:bQ
 v':(List Int)
 u':(List f9)
 D':Value
 B':(List jJ)
 J':Int
def lR:Rp OW:=sI (dj (rI .i64) (dj (rI .i64) (dj (rI .i64) (dj (rI .i64) (dj (gE (rI .i64)) (dj rB (dj bT (dj (gE (rI .i64)) (dj (gE eO) (dj rV (dj (gE fI) (rI .i64)))))))))))) (fun x=>(x.Op,x.A,x.B,x.Table,x.A',x.Left,x.c_,x.v',x.u',x.D',x.B',x.J'))
def Ld:fd lR 0 (rI .i64) (fun x y=>{x with Op:=y}):=bO ck (fun _ _=>rfl)
def Lc:fd lR 1 (rI .i64) (fun x y=>{x with A:=y}):=bO (au ck rfl) (fun _ _=>rfl)
def La:fd lR 2 (rI .i64) (fun x y=>{x with B:=y}):=bO (au (au ck rfl) rfl) (fun _ _=>rfl)
def LO:lO lR 9 rV (fun x=>x.D'):=(dA (aG (aG (aG (aG (aG (aG (aG (aG (aG cx rfl) rfl) rfl) rfl) rfl) rfl) rfl) rfl) rfl))
def rs(y:al)(v9:Value):OW:=⟨y.Op,y.A,y.B,y.Table,y.A',y.Left,y.c_,y.v',y.u',v9,y.B',y.J'⟩
def GU: ∀S,lR.rc S [.int .i64 0,.int .i64 0,.int .i64 0,.int .i64 0,.slice none 0 0,.bool false,.slice none 0 0,.slice none 0 0,.slice none 0 0,.slice none 0 0,.slice none 0 0,.int .i64 0] (rs ((⟨(0:Int),(0:Int),(0:Int),(0:Int),[],false,(⟨[]⟩:bQ),[],[],[],[],(0:Int)⟩:al)) (aI none 0 0)):=fun _=>⟨[.int .i64 0],[.int .i64 0,.int .i64 0,.int .i64 0,.slice none 0 0,.bool false,.slice none 0 0,.slice none 0 0,.slice none 0 0,.slice none 0 0,.slice none 0 0,.int .i64 0],rfl,rfl,⟨[.int .i64 0],[.int .i64 0,.int .i64 0,.slice none 0 0,.bool false,.slice none 0 0,.slice none 0 0,.slice none 0 0,.slice none 0 0,.slice none 0 0,.int .i64 0],rfl,rfl,⟨[.int .i64 0],[.int .i64 0,.slice none 0 0,.bool false,.slice none 0 0,.slice none 0 0,.slice none 0 0,.slice none 0 0,.slice none 0 0,.int .i64 0],rfl,rfl,⟨[.int .i64 0],[.slice none 0 0,.bool false,.slice none 0 0,.slice none 0 0,.slice none 0 0,.slice none 0 0,.slice none 0 0,.int .i64 0],rfl,rfl,⟨[.slice none 0 0],[.bool false,.slice none 0 0,.slice none 0 0,.slice none 0 0,.slice none 0 0,.slice none 0 0,.int .i64 0],rfl,⟨none,0,rfl,kE _,mT _,.inl rfl⟩,⟨[.bool false],[.slice none 0 0,.slice none 0 0,.slice none 0 0,.slice none 0 0,.slice none 0 0,.int .i64 0],rfl,rfl,⟨[.slice none 0 0],[.slice none 0 0,.slice none 0 0,.slice none 0 0,.slice none 0 0,.int .i64 0],rfl,s4 _,⟨[.slice none 0 0],[.slice none 0 0,.slice none 0 0,.slice none 0 0,.int .i64 0],rfl,⟨none,0,rfl,kE _,mT _,.inl rfl⟩,⟨[.slice none 0 0],[.slice none 0 0,.slice none 0 0,.int .i64 0],rfl,⟨none,0,rfl,kE _,mT _,.inl rfl⟩,⟨[.slice none 0 0],[.slice none 0 0,.int .i64 0],rfl,⟨rfl,rfl⟩,⟨[.slice none 0 0],[.int .i64 0],rfl,⟨none,0,rfl,kE _,mT _,.inl rfl⟩,rfl⟩⟩⟩⟩⟩⟩⟩⟩⟩⟩⟩
structure OV where
 i':Value
def pq:Rp OV:=sI rV (fun x=>(x.i'))
def se:lO pq 0 rV (fun x=>x.i'):=cx
def rr(y:fx)(v0:Value):OV:=⟨v0⟩
def Pb: ∀S,pq.rc S [.slice none 0 0] (rr ((⟨[]⟩:fx)) (aI none 0 0)):=fun _=>⟨rfl,rfl⟩
structure KC where
 Reader:Value
 all:(List Int)
 bad:Bool
def vu:Rp KC:=sI (dj rV (dj (gE (rI .u8)) rB)) (fun x=>(x.Reader,x.all,x.bad))
def I2:fd vu 0 rV (fun x y=>{x with Reader:=y}):=bO ck (fun _ _=>rfl)
def I0:fd vu 1 (gE (rI .u8)) (fun x y=>{x with all:=y}):=bO (au ck rfl) (fun _ _=>rfl)
def A6(y:bq)(v0:Value):KC:=⟨v0,y.all,y.bad⟩
def MH: ∀S,vu.rc S [.pointer none,.slice none 0 0,.bool false] (A6 ((⟨(⟨(⟨(0:Int),(0:Int)⟩:rJ),[]⟩:av),[],false⟩:bq)) (.pointer none)):=fun _=>⟨[.pointer none],[.slice none 0 0,.bool false],rfl,⟨rfl,rfl⟩,⟨[.slice none 0 0],[.bool false],rfl,⟨none,0,rfl,kE _,mT _,.inl rfl⟩,rfl⟩⟩
structure SM where
 nodes:(List al)
 g':(List (List Int))
 m':(List Int)
 n:al
 a_:(List Int)
 b:(List Int)
 j':Value
def dh:Rp SM:=sI (dj (gE aQ) (dj (gE (gE (rI .i64))) (dj (TA:Rp (List Int)) (dj aQ (dj (gE (rI .i64)) (dj (gE (rI .i64)) rV)))))) (fun x=>(x.nodes,x.g',x.m',x.n,x.a_,x.b,x.j'))
def Bf:lO dh 3 aQ (fun x=>x.n):=(dA (aG (aG (aG cx rfl) rfl) rfl))
def mG:lO dh 15 (gE (rI .i64)) (fun x=>x.a_):=(dA (aG (aG (aG (aG cx rfl) rfl) rfl) rfl))
def Ol:lO dh 16 (gE (rI .i64)) (fun x=>x.b):=(dA (aG (aG (aG (aG (aG cx rfl) rfl) rfl) rfl) rfl))
def nT:lO dh 17 rV (fun x=>x.j'):=(aG (aG (aG (aG (aG (aG cx rfl) rfl) rfl) rfl) rfl) rfl)
def dy(y:aE)(v6:Value):SM:=⟨y.nodes,y.g',y.m',y.n,y.a_,y.b,v6⟩
structure KD where
 place:rJ
 own:Value
def tF:Rp KD:=sI (dj uh rV) (fun x=>(x.place,x.own))
def Jp:lO tF 2 rV (fun x=>x.own):=(aG cx rfl)
def I3:fd tF 2 rV (fun x y=>{x with own:=y}):=bO (au aq rfl) (fun _ _=>rfl)
def xN(y:av)(v1:Value):KD:=⟨y.place,v1⟩
def MI: ∀S,tF.rc S [.int .i64 0,.int .i64 0,.slice none 0 0] (xN ((⟨(⟨(0:Int),(0:Int)⟩:rJ),[]⟩:av)) (aI none 0 0)):=fun _=>⟨[.int .i64 0,.int .i64 0],[.slice none 0 0],rfl,UX _,⟨rfl,rfl⟩⟩
structure OT where
 Reader:Value
 all:Int
 bad:Bool
def wU:Rp OT:=sI (dj rV (dj (rI .i64) rB)) (fun x=>(x.Reader,x.all,x.bad))
def K9:fd wU 0 rV (fun x y=>{x with Reader:=y}):=bO ck (fun _ _=>rfl)
def K8:fd wU 1 (rI .i64) (fun x y=>{x with all:=y}):=bO (au ck rfl) (fun _ _=>rfl)
def C4(y:dx)(v0:Value):OT:=⟨v0,y.all,y.bad⟩
def Pa: ∀S,wU.rc S [.pointer none,.int .i64 0,.bool false] (C4 ((⟨(⟨(⟨(0:Int),(0:Int)⟩:rJ),[]⟩:av),(0:Int),false⟩:dx)) (.pointer none)):=fun _=>⟨[.pointer none],[.int .i64 0,.bool false],rfl,⟨rfl,rfl⟩,⟨[.int .i64 0],[.bool false],rfl,rfl,rfl⟩⟩
def qt{S:SH}{cs:List Value}{y:cH}{v6:Value}{xs6:iG}(k6:jL.rc S [v6] xs6)(h:kI.rc S cs (vD y v6)):ew.rc S cs ((⟨y.Kind,y.f_,y.To,y.P',y.e_,y.U',xs6,y.C',y.G_⟩:cH)):=by
 obtain⟨a0,b0,e0,h0,a1,b1,e1,H,a2,b2,e2,W,a3,b3,e3,h3,a4,b4,e4,h4,a5,b5,e5,h5,a6,b6,e6,h6,a7,b7,e7,h7,h8⟩:=h
 exact⟨a0,b0,e0,h0,a1,b1,e1,H,a2,b2,e2,W,a3,b3,e3,h3,a4,b4,e4,h4,a5,b5,e5,h5,a6,b6,e6,(by rw [h6.1];exact k6),a7,b7,e7,h7,h8⟩
def Bn{S:SH}{cs:List Value}{y:dl}{v0:Value}{xs0:(List al)}(k0:(gE aQ).rc S [v0] xs0)(h:pX.rc S cs (wB y v0)):cK.rc S cs ((⟨xs0,y.At,y.Way,y.p_⟩:dl)):=by
 obtain⟨a0,b0,e0,h0,a1,b1,e1,H,a2,b2,e2,W,h3⟩:=h
 exact⟨a0,b0,e0,(by rw [h0.1];exact k0),a1,b1,e1,H,a2,b2,e2,W,h3⟩
def xf{S:SH}{cs:List Value}{y:bQ}{v0:Value}{xs0:(List bw)}(k0:(gE bG).rc S [v0] xs0)(h:jA.rc S cs (kf y v0)):bT.rc S cs ((⟨xs0⟩:bQ)):=by
 have h0:=h
 exact(by rw [h0.1];exact k0)
def jx{S:SH}{cs:List Value}{y:al}{v8:Value}{v10:Value}{xs8:(List f9)}(k8:(gE eO).rc S [v8] xs8){xs10:(List jJ)}(k10:(gE fI).rc S [v10] xs10)(h:dm.rc S cs (fQ y v8 v10)):aQ.rc S cs ((⟨y.Op,y.A,y.B,y.Table,y.A',y.Left,y.c_,y.v',xs8,y.D',xs10,y.J'⟩:al)):=by
 obtain⟨a0,b0,e0,h0,a1,b1,e1,H,a2,b2,e2,W,a3,b3,e3,h3,a4,b4,e4,h4,a5,b5,e5,h5,a6,b6,e6,h6,a7,b7,e7,h7,a8,b8,e8,h8,a9,b9,e9,h9,a10,b10,e10,h10,h11⟩:=h
 exact⟨a0,b0,e0,h0,a1,b1,e1,H,a2,b2,e2,W,a3,b3,e3,h3,a4,b4,e4,h4,a5,b5,e5,h5,a6,b6,e6,h6,a7,b7,e7,h7,a8,b8,e8,(by rw [h8.1];exact k8),a9,b9,e9,h9,a10,b10,e10,(by rw [h10.1];exact k10),h11⟩
def Gn{S:SH}{cs:List Value}{y:al}{v9:Value}{xs9:(List bQ)}(k9:(gE bT).rc S [v9] xs9)(h:lR.rc S cs (rs y v9)):aQ.rc S cs ((⟨y.Op,y.A,y.B,y.Table,y.A',y.Left,y.c_,y.v',y.u',xs9,y.B',y.J'⟩:al)):=by
 obtain⟨a0,b0,e0,h0,a1,b1,e1,H,a2,b2,e2,W,a3,b3,e3,h3,a4,b4,e4,h4,a5,b5,e5,h5,a6,b6,e6,h6,a7,b7,e7,h7,a8,b8,e8,h8,a9,b9,e9,h9,a10,b10,e10,h10,h11⟩:=h
 exact⟨a0,b0,e0,h0,a1,b1,e1,H,a2,b2,e2,W,a3,b3,e3,h3,a4,b4,e4,h4,a5,b5,e5,h5,a6,b6,e6,h6,a7,b7,e7,h7,a8,b8,e8,h8,a9,b9,e9,(by rw [h9.1];exact k9),a10,b10,e10,h10,h11⟩
def Gm{S:SH}{cs:List Value}{y:fx}{v0:Value}{xs0:(List al)}(k0:(gE aQ).rc S [v0] xs0)(h:pq.rc S cs (rr y v0)):m5.rc S cs ((⟨xs0⟩:fx)):=by
 have h0:=h
 exact(by rw [h0.1];exact k0)
def j9{S:SH}{cs:List Value}{y:aE}{v6:Value}{xs6:(List Int)}(k6:(gE (rI .i64)).rc S [v6] xs6)(h:dh.rc S cs (dy y v6)):ce.rc S cs ((⟨y.nodes,y.g',y.m',y.n,y.a_,y.b,xs6⟩:aE)):=by
 obtain⟨a0,b0,e0,h0,a1,b1,e1,H,a2,b2,e2,W,a3,b3,e3,h3,a4,b4,e4,h4,a5,b5,e5,h5,h6⟩:=h
 exact⟨a0,b0,e0,h0,a1,b1,e1,H,a2,b2,e2,W,a3,b3,e3,h3,a4,b4,e4,h4,a5,b5,e5,h5,(by rw [h6.1];exact k6)⟩
def Fm{S:SH}{cs:List Value}{y:av}{v1:Value}{xs1:(List Int)}(k1:(gE (rI .u8)).rc S [v1] xs1)(h:tF.rc S cs (xN y v1)):jB.rc S cs ((⟨y.place,xs1⟩:av)):=by
 obtain⟨a0,b0,e0,h0,H⟩:=h
 exact⟨a0,b0,e0,h0,(by rw [H.1];exact k1)⟩
def CR(y:cH)(u:Value)(v:Value):sy kI kI 6 rV (vD y u) v (vD y v):=wg (eM (eM (eM (eM (eM (eM (DG (oL rfl) rfl) rfl) rfl) rfl) rfl) rfl) rfl) rfl
def Cg(y:dl)(u:Value)(v:Value):sy pX pX 0 rV (wB y u) v (wB y v):=wg (DG (oL rfl) rfl) rfl
def sG(y:bQ)(u:Value)(v:Value):sy jA jA 0 rV (kf y u) v (kf y v):=wg (oL rfl) rfl
def wO(y:al)(v10:Value)(u:Value)(v:Value):sy dm dm 8 rV (fQ y u v10) v (fQ y v v10):=wg (eM (eM (eM (eM (eM (eM (eM (eM (DG (oL rfl) rfl) rfl) rfl) rfl) rfl) rfl) rfl) rfl) rfl) rfl
def wb(y:al)(v8:Value)(u:Value)(v:Value):sy dm dm 10 rV (fQ y v8 u) v (fQ y v8 v):=wg (eM (eM (eM (eM (eM (eM (eM (eM (eM (eM (DG (oL rfl) rfl) rfl) rfl) rfl) rfl) rfl) rfl) rfl) rfl) rfl) rfl) rfl
def AG(y:al)(u:Value)(v:Value):sy lR lR 9 rV (rs y u) v (rs y v):=wg (eM (eM (eM (eM (eM (eM (eM (eM (eM (DG (oL rfl) rfl) rfl) rfl) rfl) rfl) rfl) rfl) rfl) rfl) rfl) rfl
def vr(y:fx)(u:Value)(v:Value):sy pq pq 0 rV (rr y u) v (rr y v):=wg (oL rfl) rfl
def nM(y:aE)(v:Value):sy ce dh 17 rV (y) v (dy y v):=wg (eM (eM (eM (eM (eM (eM (oL rfl) rfl) rfl) rfl) rfl) rfl) rfl) rfl
def kc(y:aE)(u:Value)(v:Value):sy dh dh 17 rV (dy y u) v (dy y v):=wg (eM (eM (eM (eM (eM (eM (oL rfl) rfl) rfl) rfl) rfl) rfl) rfl) rfl
def gx(b:Nat)(x:aE)(i:OI):List OE:=[s (rH ce [(1,aI (i.h 0).1 (i.h 0).2 x.g'.length),(2,aI (i.h 1).1 (i.h 1).2 x.m'.length)]) 168 b x,lP (gE (rI .i64)) 69 (i.h 0).1 (i.h 0).2 x.g',d5 (rI .i64) 3 (i.h 1).1 (i.h 1).2 x.m']
def A5(b:Nat)(x:kb)(i:OI):List OE:=[s (rH tG [(0,aI (i.h 0).1 (i.h 0).2 x.bytes.length)]) 60 b x,lP (rI .u8) 5 (i.h 0).1 (i.h 0).2 x.bytes]
def jf(b:Nat)(x:bd)(i:OI):List OE:=[s (rH dO []) 98 b x]
def abq(b:Nat)(x:aE)(i:OI):List OE:=[s (rH dh [(1,aI (i.h 0).1 (i.h 0).2 x.g'.length),(2,aI (i.h 1).1 (i.h 1).2 x.m'.length)]) 168 b (dy x (aI (i.h 2).1 (i.h 2).2 x.j'.length)),lP (gE (rI .i64)) 69 (i.h 0).1 (i.h 0).2 x.g',d5 (rI .i64) 3 (i.h 1).1 (i.h 1).2 x.m',d5 (rI .i64) 3 (i.h 2).1 (i.h 2).2 x.j']
def adP{S:SH}{cs:List Value}{y:bq}{v:Value}(h:vu.rc S cs (A6 y v)):(rH ax [(0,v)]).rc S cs y:=by
 obtain⟨a0,b0,e0,h0,a1,b1,e1,H,W⟩:=h
 refine⟨⟨a0,b0,e0,⟨v,h0.1,h0.2⟩,a1,b1,e1,H,W⟩,fun p hp=>?_⟩
 simp at hp
 subst hp
 rw [e0,h0.1]
 rfl
def adO{S:SH}{cs:List Value}{y:dx}{v:Value}(h:wU.rc S cs (C4 y v)):(rH cz [(0,v)]).rc S cs y:=by
 obtain⟨a0,b0,e0,h0,a1,b1,e1,H,W⟩:=h
 refine⟨⟨a0,b0,e0,⟨v,h0.1,h0.2⟩,a1,b1,e1,H,W⟩,fun p hp=>?_⟩
 simp at hp
 subst hp
 rw [e0,h0.1]
 rfl
