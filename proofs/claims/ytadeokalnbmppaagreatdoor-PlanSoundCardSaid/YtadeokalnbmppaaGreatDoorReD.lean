import Derived.Test.YtadeokalnbmppaaGreatDoorReV4
set_option linter.all false
namespace Go.Proofs.YtadeokalnbmppaaGreatDoor
open Go
structure dX where
 Kind:Int
 N:Int
 U:Int
 S:ru
 deriving DecidableEq,Inhabited
def gL:Rp dX:=nS (cu (rI .i64) (cu (rI .i64) (cu (rI .u64) rS))) (fun x=>(x.Kind,x.N,x.U,x.S))
def zj:mT gL 0 (rI .i64) (fun x=>x.Kind):=(dz ci)
def Cg:gn gL 0 (rI .i64) (fun x y=>{x with Kind:=y}):=bW cT (fun _ _=>rfl)
def Cx:mT gL 1 (rI .i64) (fun x=>x.N):=(dz (av ci rfl))
def G3:gn gL 1 (rI .i64) (fun x y=>{x with N:=y}):=bW (aA cT rfl) (fun _ _=>rfl)
def PV:mT gL 2 (rI .u64) (fun x=>x.U):=(dz (av (av ci rfl) rfl))
def Pc:gn gL 2 (rI .u64) (fun x y=>{x with U:=y}):=bW (aA (aA cT rfl) rfl) (fun _ _=>rfl)
def Cw:mT gL 3 rS (fun x=>x.S):=(av (av (av ci rfl) rfl) rfl)
def Pb:gn gL 3 rS (fun x y=>{x with S:=y}):=bW (aA (aA (aA ae rfl) rfl) rfl) (fun _ _=>rfl)
def zX: ∀S,gL.rc S [.int .i64 0,.int .i64 0,.int .u64 0,.string ⟨#[]⟩] ((⟨(0:Int),(0:Int),(0:Int),[]⟩:dX)):=fun _=>⟨[.int .i64 0],[.int .i64 0,.int .u64 0,.string ⟨#[]⟩],rfl,rfl,⟨[.int .i64 0],[.int .u64 0,.string ⟨#[]⟩],rfl,rfl,⟨[.int .u64 0],[.string ⟨#[]⟩],rfl,rfl,rfl⟩⟩⟩
structure bw where
 Tag:Int
 L:Int
 R:Int
 y_:Int
 Value:dX
 deriving DecidableEq,Inhabited
def bJ:Rp bw:=nS (cu (rI .i64) (cu (rI .i64) (cu (rI .i64) (cu (rI .i64) gL)))) (fun x=>(x.Tag,x.L,x.R,x.y_,x.Value))
def je:mT bJ 0 (rI .i64) (fun x=>x.Tag):=(dz ci)
def zl:mT bJ 1 (rI .i64) (fun x=>x.L):=(dz (av ci rfl))
def Pi:gn bJ 1 (rI .i64) (fun x y=>{x with L:=y}):=bW (aA cT rfl) (fun _ _=>rfl)
def zk:mT bJ 2 (rI .i64) (fun x=>x.R):=(dz (av (av ci rfl) rfl))
def Ph:gn bJ 2 (rI .i64) (fun x y=>{x with R:=y}):=bW (aA (aA cT rfl) rfl) (fun _ _=>rfl)
def mL:mT bJ 3 (rI .i64) (fun x=>x.y_):=(dz (av (av (av ci rfl) rfl) rfl))
def wJ:mT bJ 4 gL (fun x=>x.Value):=(av (av (av (av ci rfl) rfl) rfl) rfl)
def tf: ∀S,bJ.rc S [.int .i64 0,.int .i64 0,.int .i64 0,.int .i64 0,.int .i64 0,.int .i64 0,.int .u64 0,.string ⟨#[]⟩] ((⟨(0:Int),(0:Int),(0:Int),(0:Int),(⟨(0:Int),(0:Int),(0:Int),[]⟩:dX)⟩:bw)):=fun _=>⟨[.int .i64 0],[.int .i64 0,.int .i64 0,.int .i64 0,.int .i64 0,.int .i64 0,.int .u64 0,.string ⟨#[]⟩],rfl,rfl,⟨[.int .i64 0],[.int .i64 0,.int .i64 0,.int .i64 0,.int .i64 0,.int .u64 0,.string ⟨#[]⟩],rfl,rfl,⟨[.int .i64 0],[.int .i64 0,.int .i64 0,.int .i64 0,.int .u64 0,.string ⟨#[]⟩],rfl,rfl,⟨[.int .i64 0],[.int .i64 0,.int .i64 0,.int .u64 0,.string ⟨#[]⟩],rfl,rfl,zX _⟩⟩⟩⟩
structure bD where
 u':(List bw)
 deriving DecidableEq,Inhabited
def cg:Rp bD:=nS (eW bJ) (fun x=>(x.u'))
def dF:mT cg 0 (eW bJ) (fun x=>x.u'):=ci
def Eo:gn cg 0 (eW bJ) (fun x y=>{x with u':=y}):=bW ae (fun _ _=>rfl)
def te: ∀S,cg.rc S [.slice none 0 0] ((⟨[]⟩:bD)):=fun _=>⟨none,0,rfl,eX _,kY _,.inl rfl⟩
structure fh where
 Tag:Int
 N_:bD
 deriving DecidableEq,Inhabited
def eg:Rp fh:=nS (cu (rI .i64) cg) (fun x=>(x.Tag,x.N_))
def mR:mT eg 0 (rI .i64) (fun x=>x.Tag):=(dz ci)
def Mr:gn eg 0 (rI .i64) (fun x y=>{x with Tag:=y}):=bW cT (fun _ _=>rfl)
def rK:mT eg 1 cg (fun x=>x.N_):=(av ci rfl)
def UW:gn eg 1 cg (fun x y=>{x with N_:=y}):=bW (aA ae rfl) (fun _ _=>rfl)
def vo: ∀S,eg.rc S [.int .i64 0,.slice none 0 0] ((⟨(0:Int),(⟨[]⟩:bD)⟩:fh)):=fun _=>⟨[.int .i64 0],[.slice none 0 0],rfl,rfl,te _⟩
structure px where
 y_:Int
 Desc:Bool
 deriving DecidableEq,Inhabited
def kz:Rp px:=nS (cu (rI .i64) rB) (fun x=>(x.y_,x.Desc))
def AA:mT kz 0 (rI .i64) (fun x=>x.y_):=(dz ci)
def VO:mT kz 1 rB (fun x=>x.Desc):=(av ci rfl)
structure ac where
 Op:Int
 A:Int
 B:Int
 M':Int
 U':(List Int)
 Left:Bool
 f_:bD
 I':(List Int)
 L':(List fh)
 N':(List bD)
 Y':(List px)
 Z':Int
 deriving DecidableEq,Inhabited
def al:Rp ac:=nS (cu (rI .i64) (cu (rI .i64) (cu (rI .i64) (cu (rI .i64) (cu (eW (rI .i64)) (cu rB (cu cg (cu (eW (rI .i64)) (cu (eW eg) (cu (eW cg) (cu (eW kz) (rI .i64)))))))))))) (fun x=>(x.Op,x.A,x.B,x.M',x.U',x.Left,x.f_,x.I',x.L',x.N',x.Y',x.Z'))
def dA:mT al 0 (rI .i64) (fun x=>x.Op):=(dz ci)
def yX:gn al 0 (rI .i64) (fun x y=>{x with Op:=y}):=bW cT (fun _ _=>rfl)
def d8:mT al 1 (rI .i64) (fun x=>x.A):=(dz (av ci rfl))
def uh:gn al 1 (rI .i64) (fun x y=>{x with A:=y}):=bW (aA cT rfl) (fun _ _=>rfl)
def jd:mT al 2 (rI .i64) (fun x=>x.B):=(dz (av (av ci rfl) rfl))
def se:gn al 2 (rI .i64) (fun x y=>{x with B:=y}):=bW (aA (aA cT rfl) rfl) (fun _ _=>rfl)
def gC:mT al 3 (rI .i64) (fun x=>x.M'):=(dz (av (av (av ci rfl) rfl) rfl))
def Ci:gn al 3 (rI .i64) (fun x y=>{x with M':=y}):=bW (aA (aA (aA cT rfl) rfl) rfl) (fun _ _=>rfl)
def gY:mT al 4 (eW (rI .i64)) (fun x=>x.U'):=(dz (av (av (av (av ci rfl) rfl) rfl) rfl))
def yW:gn al 4 (eW (rI .i64)) (fun x y=>{x with U':=y}):=bW (aA (aA (aA (aA cT rfl) rfl) rfl) rfl) (fun _ _=>rfl)
def HK:mT al 5 rB (fun x=>x.Left):=(dz (av (av (av (av (av ci rfl) rfl) rfl) rfl) rfl))
def Pg:gn al 5 rB (fun x y=>{x with Left:=y}):=bW (aA (aA (aA (aA (aA cT rfl) rfl) rfl) rfl) rfl) (fun _ _=>rfl)
def mK:mT al 6 cg (fun x=>x.f_):=(dz (av (av (av (av (av (av ci rfl) rfl) rfl) rfl) rfl) rfl))
def Ch:gn al 6 cg (fun x y=>{x with f_:=y}):=bW (aA (aA (aA (aA (aA (aA cT rfl) rfl) rfl) rfl) rfl) rfl) (fun _ _=>rfl)
def eV:mT al 7 (eW (rI .i64)) (fun x=>x.I'):=(dz (av (av (av (av (av (av (av ci rfl) rfl) rfl) rfl) rfl) rfl) rfl))
def G7:gn al 7 (eW (rI .i64)) (fun x y=>{x with I':=y}):=bW (aA (aA (aA (aA (aA (aA (aA cT rfl) rfl) rfl) rfl) rfl) rfl) rfl) (fun _ _=>rfl)
def fH:mT al 8 (eW eg) (fun x=>x.L'):=(dz (av (av (av (av (av (av (av (av ci rfl) rfl) rfl) rfl) rfl) rfl) rfl) rfl))
def G6:gn al 8 (eW eg) (fun x y=>{x with L':=y}):=bW (aA (aA (aA (aA (aA (aA (aA (aA cT rfl) rfl) rfl) rfl) rfl) rfl) rfl) rfl) (fun _ _=>rfl)
def lH:mT al 9 (eW cg) (fun x=>x.N'):=(dz (av (av (av (av (av (av (av (av (av ci rfl) rfl) rfl) rfl) rfl) rfl) rfl) rfl) rfl))
def Pf:gn al 9 (eW cg) (fun x y=>{x with N':=y}):=bW (aA (aA (aA (aA (aA (aA (aA (aA (aA cT rfl) rfl) rfl) rfl) rfl) rfl) rfl) rfl) rfl) (fun _ _=>rfl)
def m8:mT al 10 (eW kz) (fun x=>x.Y'):=(dz (av (av (av (av (av (av (av (av (av (av ci rfl) rfl) rfl) rfl) rfl) rfl) rfl) rfl) rfl) rfl))
def Fg:gn al 10 (eW kz) (fun x y=>{x with Y':=y}):=bW (aA (aA (aA (aA (aA (aA (aA (aA (aA (aA cT rfl) rfl) rfl) rfl) rfl) rfl) rfl) rfl) rfl) rfl) (fun _ _=>rfl)
def pD:mT al 11 (rI .i64) (fun x=>x.Z'):=(av (av (av (av (av (av (av (av (av (av (av ci rfl) rfl) rfl) rfl) rfl) rfl) rfl) rfl) rfl) rfl) rfl)
def Mq:gn al 11 (rI .i64) (fun x y=>{x with Z':=y}):=bW (aA (aA (aA (aA (aA (aA (aA (aA (aA (aA (aA ae rfl) rfl) rfl) rfl) rfl) rfl) rfl) rfl) rfl) rfl) rfl) (fun _ _=>rfl)
def fC: ∀S,al.rc S [.int .i64 0,.int .i64 0,.int .i64 0,.int .i64 0,.slice none 0 0,.bool false,.slice none 0 0,.slice none 0 0,.slice none 0 0,.slice none 0 0,.slice none 0 0,.int .i64 0] ((⟨(0:Int),(0:Int),(0:Int),(0:Int),[],false,(⟨[]⟩:bD),[],[],[],[],(0:Int)⟩:ac)):=fun _=>⟨[.int .i64 0],[.int .i64 0,.int .i64 0,.int .i64 0,.slice none 0 0,.bool false,.slice none 0 0,.slice none 0 0,.slice none 0 0,.slice none 0 0,.slice none 0 0,.int .i64 0],rfl,rfl,⟨[.int .i64 0],[.int .i64 0,.int .i64 0,.slice none 0 0,.bool false,.slice none 0 0,.slice none 0 0,.slice none 0 0,.slice none 0 0,.slice none 0 0,.int .i64 0],rfl,rfl,⟨[.int .i64 0],[.int .i64 0,.slice none 0 0,.bool false,.slice none 0 0,.slice none 0 0,.slice none 0 0,.slice none 0 0,.slice none 0 0,.int .i64 0],rfl,rfl,⟨[.int .i64 0],[.slice none 0 0,.bool false,.slice none 0 0,.slice none 0 0,.slice none 0 0,.slice none 0 0,.slice none 0 0,.int .i64 0],rfl,rfl,⟨[.slice none 0 0],[.bool false,.slice none 0 0,.slice none 0 0,.slice none 0 0,.slice none 0 0,.slice none 0 0,.int .i64 0],rfl,⟨none,0,rfl,eX _,kY _,.inl rfl⟩,⟨[.bool false],[.slice none 0 0,.slice none 0 0,.slice none 0 0,.slice none 0 0,.slice none 0 0,.int .i64 0],rfl,rfl,⟨[.slice none 0 0],[.slice none 0 0,.slice none 0 0,.slice none 0 0,.slice none 0 0,.int .i64 0],rfl,te _,⟨[.slice none 0 0],[.slice none 0 0,.slice none 0 0,.slice none 0 0,.int .i64 0],rfl,⟨none,0,rfl,eX _,kY _,.inl rfl⟩,⟨[.slice none 0 0],[.slice none 0 0,.slice none 0 0,.int .i64 0],rfl,⟨none,0,rfl,eX _,kY _,.inl rfl⟩,⟨[.slice none 0 0],[.slice none 0 0,.int .i64 0],rfl,⟨none,0,rfl,eX _,kY _,.inl rfl⟩,⟨[.slice none 0 0],[.int .i64 0],rfl,⟨none,0,rfl,eX _,kY _,.inl rfl⟩,rfl⟩⟩⟩⟩⟩⟩⟩⟩⟩⟩⟩
structure ap where
 A':(List ac)
 j':(List (List Int))
 D':(List Int)
 n:ac
 a_:(List Int)
 b:(List Int)
 B':(List Int)
 deriving DecidableEq,Inhabited
def bG:Rp ap:=nS (cu (eW al) (cu (eW (eW (rI .i64))) (cu (Xq:Rp (List Int)) (cu al (cu (eW (rI .i64)) (cu (eW (rI .i64)) (eW (rI .i64)))))))) (fun x=>(x.A',x.j',x.D',x.n,x.a_,x.b,x.B'))
def EI:mT bG 0 (eW al) (fun x=>x.A'):=(dz ci)
def SV:gn bG 0 (eW al) (fun x y=>{x with A':=y}):=bW cT (fun _ _=>rfl)
def SU:gn bG 1 (eW (eW (rI .i64))) (fun x y=>{x with j':=y}):=bW (aA cT rfl) (fun _ _=>rfl)
def ST:gn bG 2 (Xq:Rp (List Int)) (fun x y=>{x with D':=y}):=bW (aA (aA cT rfl) rfl) (fun _ _=>rfl)
def ip:mT bG 3 al (fun x=>x.n):=(dz (av (av (av ci rfl) rfl) rfl))
def SS:gn bG 3 al (fun x y=>{x with n:=y}):=bW (aA (aA (aA cT rfl) rfl) rfl) (fun _ _=>rfl)
def re:mT bG 15 (eW (rI .i64)) (fun x=>x.a_):=(dz (av (av (av (av ci rfl) rfl) rfl) rfl))
def Jb:gn bG 15 (eW (rI .i64)) (fun x y=>{x with a_:=y}):=bW (aA (aA (aA (aA cT rfl) rfl) rfl) rfl) (fun _ _=>rfl)
def JK:mT bG 16 (eW (rI .i64)) (fun x=>x.b):=(dz (av (av (av (av (av ci rfl) rfl) rfl) rfl) rfl))
def Ja:gn bG 16 (eW (rI .i64)) (fun x y=>{x with b:=y}):=bW (aA (aA (aA (aA (aA cT rfl) rfl) rfl) rfl) rfl) (fun _ _=>rfl)
def EH:mT bG 17 (eW (rI .i64)) (fun x=>x.B'):=(av (av (av (av (av (av ci rfl) rfl) rfl) rfl) rfl) rfl)
def vY:gn bG 17 (eW (rI .i64)) (fun x y=>{x with B':=y}):=bW (aA (aA (aA (aA (aA (aA ae rfl) rfl) rfl) rfl) rfl) rfl) (fun _ _=>rfl)
def WN: ∀S,bG.rc S [.slice none 0 0,.slice none 0 0,.slice none 0 0,.int .i64 0,.int .i64 0,.int .i64 0,.int .i64 0,.slice none 0 0,.bool false,.slice none 0 0,.slice none 0 0,.slice none 0 0,.slice none 0 0,.slice none 0 0,.int .i64 0,.slice none 0 0,.slice none 0 0,.slice none 0 0] ((⟨[],[],[],(⟨(0:Int),(0:Int),(0:Int),(0:Int),[],false,(⟨[]⟩:bD),[],[],[],[],(0:Int)⟩:ac),[],[],[]⟩:ap)):=fun _=>⟨[.slice none 0 0],[.slice none 0 0,.slice none 0 0,.int .i64 0,.int .i64 0,.int .i64 0,.int .i64 0,.slice none 0 0,.bool false,.slice none 0 0,.slice none 0 0,.slice none 0 0,.slice none 0 0,.slice none 0 0,.int .i64 0,.slice none 0 0,.slice none 0 0,.slice none 0 0],rfl,⟨none,0,rfl,eX _,kY _,.inl rfl⟩,⟨[.slice none 0 0],[.slice none 0 0,.int .i64 0,.int .i64 0,.int .i64 0,.int .i64 0,.slice none 0 0,.bool false,.slice none 0 0,.slice none 0 0,.slice none 0 0,.slice none 0 0,.slice none 0 0,.int .i64 0,.slice none 0 0,.slice none 0 0,.slice none 0 0],rfl,⟨none,0,rfl,eX _,kY _,.inl rfl⟩,⟨[.slice none 0 0],[.int .i64 0,.int .i64 0,.int .i64 0,.int .i64 0,.slice none 0 0,.bool false,.slice none 0 0,.slice none 0 0,.slice none 0 0,.slice none 0 0,.slice none 0 0,.int .i64 0,.slice none 0 0,.slice none 0 0,.slice none 0 0],rfl,⟨_,rfl,rfl⟩,⟨[.int .i64 0,.int .i64 0,.int .i64 0,.int .i64 0,.slice none 0 0,.bool false,.slice none 0 0,.slice none 0 0,.slice none 0 0,.slice none 0 0,.slice none 0 0,.int .i64 0],[.slice none 0 0,.slice none 0 0,.slice none 0 0],rfl,fC _,⟨[.slice none 0 0],[.slice none 0 0,.slice none 0 0],rfl,⟨none,0,rfl,eX _,kY _,.inl rfl⟩,⟨[.slice none 0 0],[.slice none 0 0],rfl,⟨none,0,rfl,eX _,kY _,.inl rfl⟩,⟨none,0,rfl,eX _,kY _,.inl rfl⟩⟩⟩⟩⟩⟩⟩
structure cQ where
 u':(List ac)
 deriving DecidableEq,Inhabited
def dO:Rp cQ:=nS (eW al) (fun x=>(x.u'))
def mJ:mT dO 0 (eW al) (fun x=>x.u'):=ci
def Pe:gn dO 0 (eW al) (fun x y=>{x with u':=y}):=bW ae (fun _ _=>rfl)
def uU: ∀S,dO.rc S [.slice none 0 0] ((⟨[]⟩:cQ)):=fun _=>⟨none,0,rfl,eX _,kY _,.inl rfl⟩
structure aF where
 T_:cQ
 j':(List (List Int))
 first:(List Int)
 deriving DecidableEq,Inhabited
def bP:Rp aF:=nS (cu dO (cu (eW (eW (rI .i64))) (eW (rI .i64)))) (fun x=>(x.T_,x.j',x.first))
def zi:mT bP 0 dO (fun x=>x.T_):=(dz ci)
def Ky:gn bP 0 dO (fun x y=>{x with T_:=y}):=bW cT (fun _ _=>rfl)
def Le:mT bP 1 (eW (eW (rI .i64))) (fun x=>x.j'):=(dz (av ci rfl))
def Kx:gn bP 1 (eW (eW (rI .i64))) (fun x y=>{x with j':=y}):=bW (aA cT rfl) (fun _ _=>rfl)
def Dw:mT bP 2 (eW (rI .i64)) (fun x=>x.first):=(av (av ci rfl) rfl)
def Kw:gn bP 2 (eW (rI .i64)) (fun x y=>{x with first:=y}):=bW (aA (aA ae rfl) rfl) (fun _ _=>rfl)
def OH: ∀S,bP.rc S [.slice none 0 0,.slice none 0 0,.slice none 0 0] ((⟨(⟨[]⟩:cQ),[],[]⟩:aF)):=fun _=>⟨[.slice none 0 0],[.slice none 0 0,.slice none 0 0],rfl,uU _,⟨[.slice none 0 0],[.slice none 0 0],rfl,⟨none,0,rfl,eX _,kY _,.inl rfl⟩,⟨none,0,rfl,eX _,kY _,.inl rfl⟩⟩⟩
structure cc where
 Name:ru
 Kind:Int
 deriving DecidableEq,Inhabited
def ev:Rp cc:=nS (cu rS (rI .i64)) (fun x=>(x.Name,x.Kind))
def Fz:mT ev 0 rS (fun x=>x.Name):=(dz ci)
def Ae:gn ev 0 rS (fun x y=>{x with Name:=y}):=bW cT (fun _ _=>rfl)
def AC:mT ev 1 (rI .i64) (fun x=>x.Kind):=(av ci rfl)
def Ad:gn ev 1 (rI .i64) (fun x y=>{x with Kind:=y}):=bW (aA ae rfl) (fun _ _=>rfl)
def sF: ∀S,ev.rc S [.string ⟨#[]⟩,.int .i64 0] ((⟨[],(0:Int)⟩:cc)):=fun _=>⟨[.string ⟨#[]⟩],[.int .i64 0],rfl,rfl,rfl⟩
structure JZ where
 word:ru
 kind:Int
 deriving DecidableEq,Inhabited
def A1:Rp JZ:=nS (cu rS (rI .i64)) (fun x=>(x.word,x.kind))
def TL:mT A1 0 rS (fun x=>x.word):=(dz ci)
def TK:mT A1 1 (rI .i64) (fun x=>x.kind):=(av ci rfl)
def WO: ∀S,A1.rc S [.string ⟨#[]⟩,.int .i64 0] ((⟨[],(0:Int)⟩:JZ)):=fun _=>⟨[.string ⟨#[]⟩],[.int .i64 0],rfl,rfl,rfl⟩
structure de where
 Name:ru
 b_:(List cc)
 I':(List Int)
 deriving DecidableEq,Inhabited
def fD:Rp de:=nS (cu rS (cu (eW ev) (eW (rI .i64)))) (fun x=>(x.Name,x.b_,x.I'))
def Cy:mT fD 0 rS (fun x=>x.Name):=(dz ci)
def G5:gn fD 0 rS (fun x y=>{x with Name:=y}):=bW cT (fun _ _=>rfl)
def pS:mT fD 1 (eW ev) (fun x=>x.b_):=(dz (av ci rfl))
def G4:gn fD 1 (eW ev) (fun x y=>{x with b_:=y}):=bW (aA cT rfl) (fun _ _=>rfl)
def wI:mT fD 2 (eW (rI .i64)) (fun x=>x.I'):=(av (av ci rfl) rfl)
def Pd:gn fD 2 (eW (rI .i64)) (fun x y=>{x with I':=y}):=bW (aA (aA ae rfl) rfl) (fun _ _=>rfl)
def CS: ∀S,fD.rc S [.string ⟨#[]⟩,.slice none 0 0,.slice none 0 0] ((⟨[],[],[]⟩:de)):=fun _=>⟨[.string ⟨#[]⟩],[.slice none 0 0,.slice none 0 0],rfl,rfl,⟨[.slice none 0 0],[.slice none 0 0],rfl,⟨none,0,rfl,eX _,kY _,.inl rfl⟩,⟨none,0,rfl,eX _,kY _,.inl rfl⟩⟩⟩
structure bo where
 i_:(List de)
 deriving DecidableEq,Inhabited
def eH:Rp bo:=nS (eW fD) (fun x=>(x.i_))
def kH:mT eH 0 (eW fD) (fun x=>x.i_):=ci
def Kz:gn eH 0 (eW fD) (fun x y=>{x with i_:=y}):=bW ae (fun _ _=>rfl)
def yL: ∀S,eH.rc S [.slice none 0 0] ((⟨[]⟩:bo)):=fun _=>⟨none,0,rfl,eX _,kY _,.inl rfl⟩
structure bt where
 u':(List ac)
 At:Int
 Way:Int
 l_:(List Int)
 deriving DecidableEq,Inhabited
def bk:Rp bt:=nS (cu (eW al) (cu (rI .i64) (cu (rI .i64) (eW (rI .i64))))) (fun x=>(x.u',x.At,x.Way,x.l_))
def mz:mT bk 0 (eW al) (fun x=>x.u'):=(dz ci)
def Jf:gn bk 0 (eW al) (fun x y=>{x with u':=y}):=bW cT (fun _ _=>rfl)
def sS:mT bk 1 (rI .i64) (fun x=>x.At):=(dz (av ci rfl))
def Je:gn bk 1 (rI .i64) (fun x y=>{x with At:=y}):=bW (aA cT rfl) (fun _ _=>rfl)
def sR:mT bk 2 (rI .i64) (fun x=>x.Way):=(dz (av (av ci rfl) rfl))
def Jd:gn bk 2 (rI .i64) (fun x y=>{x with Way:=y}):=bW (aA (aA cT rfl) rfl) (fun _ _=>rfl)
def Bg:mT bk 3 (eW (rI .i64)) (fun x=>x.l_):=(av (av (av ci rfl) rfl) rfl)
def SW:gn bk 3 (eW (rI .i64)) (fun x y=>{x with l_:=y}):=bW (aA (aA (aA ae rfl) rfl) rfl) (fun _ _=>rfl)
def td: ∀S,bk.rc S [.slice none 0 0,.int .i64 0,.int .i64 0,.slice none 0 0] ((⟨[],(0:Int),(0:Int),[]⟩:bt)):=fun _=>⟨[.slice none 0 0],[.int .i64 0,.int .i64 0,.slice none 0 0],rfl,⟨none,0,rfl,eX _,kY _,.inl rfl⟩,⟨[.int .i64 0],[.int .i64 0,.slice none 0 0],rfl,rfl,⟨[.int .i64 0],[.slice none 0 0],rfl,rfl,⟨none,0,rfl,eX _,kY _,.inl rfl⟩⟩⟩⟩
structure dp where
 J':(List bt)
 deriving DecidableEq,Inhabited
def cw:Rp dp:=nS (eW bk) (fun x=>(x.J'))
def fv:mT cw 0 (eW bk) (fun x=>x.J'):=ci
def Jc:gn cw 0 (eW bk) (fun x y=>{x with J':=y}):=bW ae (fun _ _=>rfl)
def vF: ∀S,cw.rc S [.slice none 0 0] ((⟨[]⟩:dp)):=fun _=>⟨none,0,rfl,eX _,kY _,.inl rfl⟩
structure aK where
 c_:dp
 tree:cQ
 catalog:bo
 j':(List (List Int))
 deriving DecidableEq,Inhabited
def bB:Rp aK:=nS (cu cw (cu dO (cu eH (eW (eW (rI .i64)))))) (fun x=>(x.c_,x.tree,x.catalog,x.j'))
def zh:mT bB 0 cw (fun x=>x.c_):=(dz ci)
def C2:gn bB 0 cw (fun x y=>{x with c_:=y}):=bW cT (fun _ _=>rfl)
def Ld:mT bB 1 dO (fun x=>x.tree):=(dz (av ci rfl))
def Kv:gn bB 1 dO (fun x y=>{x with tree:=y}):=bW (aA cT rfl) (fun _ _=>rfl)
def Lc:mT bB 2 eH (fun x=>x.catalog):=(dz (av (av ci rfl) rfl))
def Ku:gn bB 2 eH (fun x y=>{x with catalog:=y}):=bW (aA (aA cT rfl) rfl) (fun _ _=>rfl)
def Kt:gn bB 3 (eW (eW (rI .i64))) (fun x y=>{x with j':=y}):=bW (aA (aA (aA ae rfl) rfl) rfl) (fun _ _=>rfl)
def OG: ∀S,bB.rc S [.slice none 0 0,.slice none 0 0,.slice none 0 0,.slice none 0 0] ((⟨(⟨[]⟩:dp),(⟨[]⟩:cQ),(⟨[]⟩:bo),[]⟩:aK)):=fun _=>⟨[.slice none 0 0],[.slice none 0 0,.slice none 0 0,.slice none 0 0],rfl,vF _,⟨[.slice none 0 0],[.slice none 0 0,.slice none 0 0],rfl,uU _,⟨[.slice none 0 0],[.slice none 0 0],rfl,yL _,⟨none,0,rfl,eX _,kY _,.inl rfl⟩⟩⟩⟩
structure be where
 A':(List ac)
 j':(List Int)
 h_:Int
 V':(List Int)
 deriving DecidableEq,Inhabited
def aq:Rp be:=nS (cu (eW al) (cu (eW (rI .i64)) (cu (rI .i64) (eW (rI .i64))))) (fun x=>(x.A',x.j',x.h_,x.V'))
def EG:mT aq 0 (eW al) (fun x=>x.A'):=(dz ci)
def I9:gn aq 0 (eW al) (fun x y=>{x with A':=y}):=bW cT (fun _ _=>rfl)
def EF:mT aq 1 (eW (rI .i64)) (fun x=>x.j'):=(dz (av ci rfl))
def I8:gn aq 1 (eW (rI .i64)) (fun x y=>{x with j':=y}):=bW (aA cT rfl) (fun _ _=>rfl)
def pn:mT aq 2 (rI .i64) (fun x=>x.h_):=(dz (av (av ci rfl) rfl))
def I7:gn aq 2 (rI .i64) (fun x y=>{x with h_:=y}):=bW (aA (aA cT rfl) rfl) (fun _ _=>rfl)
def nj:mT aq 3 (eW (rI .i64)) (fun x=>x.V'):=(av (av (av ci rfl) rfl) rfl)
def AZ:gn aq 3 (eW (rI .i64)) (fun x y=>{x with V':=y}):=bW (aA (aA (aA ae rfl) rfl) rfl) (fun _ _=>rfl)
def iC: ∀S,aq.rc S [.slice none 0 0,.slice none 0 0,.int .i64 0,.slice none 0 0] ((⟨[],[],(0:Int),[]⟩:be)):=fun _=>⟨[.slice none 0 0],[.slice none 0 0,.int .i64 0,.slice none 0 0],rfl,⟨none,0,rfl,eX _,kY _,.inl rfl⟩,⟨[.slice none 0 0],[.int .i64 0,.slice none 0 0],rfl,⟨none,0,rfl,eX _,kY _,.inl rfl⟩,⟨[.int .i64 0],[.slice none 0 0],rfl,rfl,⟨none,0,rfl,eX _,kY _,.inl rfl⟩⟩⟩⟩
structure hJ where
 Frag:Int
 From:Int
 To:Int
 deriving DecidableEq,Inhabited
def iL:Rp hJ:=nS (cu (rI .i64) (cu (rI .i64) (rI .i64))) (fun x=>(x.Frag,x.From,x.To))
def Mp:gn iL 0 (rI .i64) (fun x y=>{x with Frag:=y}):=bW cT (fun _ _=>rfl)
def Mo:gn iL 1 (rI .i64) (fun x y=>{x with From:=y}):=bW (aA cT rfl) (fun _ _=>rfl)
def Mn:gn iL 2 (rI .i64) (fun x y=>{x with To:=y}):=bW (aA (aA ae rfl) rfl) (fun _ _=>rfl)
def IX: ∀S,iL.rc S [.int .i64 0,.int .i64 0,.int .i64 0] ((⟨(0:Int),(0:Int),(0:Int)⟩:hJ)):=fun _=>⟨[.int .i64 0],[.int .i64 0,.int .i64 0],rfl,rfl,⟨[.int .i64 0],[.int .i64 0],rfl,rfl,rfl⟩⟩
structure df where
 c_:dp
 c:bo
 j':(List (List (List Int)))
 deriving DecidableEq,Inhabited
def iR:Rp df:=nS (cu cw (cu eH (eW (eW (eW (rI .i64)))))) (fun x=>(x.c_,x.c,x.j'))
def ku:mT iR 0 cw (fun x=>x.c_):=(dz ci)
def xM:mT iR 1 eH (fun x=>x.c):=(dz (av ci rfl))
def BW:mT iR 2 (eW (eW (eW (rI .i64)))) (fun x=>x.j'):=(av (av ci rfl) rfl)
structure bT where
 Kind:Int
 l_:(List Int)
 deriving DecidableEq,Inhabited
def dU:Rp bT:=nS (cu (rI .i64) (eW (rI .i64))) (fun x=>(x.Kind,x.l_))
def my:mT dU 0 (rI .i64) (fun x=>x.Kind):=(dz ci)
def sI:gn dU 0 (rI .i64) (fun x y=>{x with Kind:=y}):=bW cT (fun _ _=>rfl)
def rf:mT dU 1 (eW (rI .i64)) (fun x=>x.l_):=(av ci rfl)
def Em:gn dU 1 (eW (rI .i64)) (fun x y=>{x with l_:=y}):=bW (aA ae rfl) (fun _ _=>rfl)
def mU: ∀S,dU.rc S [.int .i64 0,.slice none 0 0] ((⟨(0:Int),[]⟩:bT)):=fun _=>⟨[.int .i64 0],[.slice none 0 0],rfl,rfl,⟨none,0,rfl,eX _,kY _,.inl rfl⟩⟩
structure er where
 W_:(Option df)
 n:ac
 a_:bT
 b:bT
 deriving DecidableEq,Inhabited
def oX:Rp er:=nS (cu (Us iR) (cu al (cu dU dU))) (fun x=>(x.W_,x.n,x.a_,x.b))
def JJ:mT oX 0 (Us iR) (fun x=>x.W_):=(dz ci)
def SR:gn oX 0 (Us iR) (fun x y=>{x with W_:=y}):=bW cT (fun _ _=>rfl)
def Bf:mT oX 1 al (fun x=>x.n):=(dz (av ci rfl))
def SQ:gn oX 1 al (fun x y=>{x with n:=y}):=bW (aA cT rfl) (fun _ _=>rfl)
def wb:mT oX 13 dU (fun x=>x.a_):=(dz (av (av ci rfl) rfl))
def SP:gn oX 13 dU (fun x y=>{x with a_:=y}):=bW (aA (aA cT rfl) rfl) (fun _ _=>rfl)
def JI:mT oX 15 dU (fun x=>x.b):=(av (av (av ci rfl) rfl) rfl)
def SO:gn oX 15 dU (fun x y=>{x with b:=y}):=bW (aA (aA (aA ae rfl) rfl) rfl) (fun _ _=>rfl)
def WM: ∀S,oX.rc S [.pointer none,.int .i64 0,.int .i64 0,.int .i64 0,.int .i64 0,.slice none 0 0,.bool false,.slice none 0 0,.slice none 0 0,.slice none 0 0,.slice none 0 0,.slice none 0 0,.int .i64 0,.int .i64 0,.slice none 0 0,.int .i64 0,.slice none 0 0] ((⟨none,(⟨(0:Int),(0:Int),(0:Int),(0:Int),[],false,(⟨[]⟩:bD),[],[],[],[],(0:Int)⟩:ac),(⟨(0:Int),[]⟩:bT),(⟨(0:Int),[]⟩:bT)⟩:er)):=fun _=>⟨[.pointer none],[.int .i64 0,.int .i64 0,.int .i64 0,.int .i64 0,.slice none 0 0,.bool false,.slice none 0 0,.slice none 0 0,.slice none 0 0,.slice none 0 0,.slice none 0 0,.int .i64 0,.int .i64 0,.slice none 0 0,.int .i64 0,.slice none 0 0],rfl,⟨_,rfl,rfl⟩,⟨[.int .i64 0,.int .i64 0,.int .i64 0,.int .i64 0,.slice none 0 0,.bool false,.slice none 0 0,.slice none 0 0,.slice none 0 0,.slice none 0 0,.slice none 0 0,.int .i64 0],[.int .i64 0,.slice none 0 0,.int .i64 0,.slice none 0 0],rfl,fC _,⟨[.int .i64 0,.slice none 0 0],[.int .i64 0,.slice none 0 0],rfl,mU _,mU _⟩⟩⟩
structure Oj where
 u':Value
def sf:Rp Oj:=nS rV (fun x=>(x.u'))
def K9:mT sf 0 rV (fun x=>x.u'):=ci
def ur(y:cQ)(v0:Value):Oj:=⟨v0⟩
def OF: ∀S,sf.rc S [.slice none 0 0] (ur ((⟨[]⟩:cQ)) (ak none 0 0)):=fun _=>⟨rfl,rfl⟩
structure Sh where
 u':Value
def qf:Rp Sh:=nS rV (fun x=>(x.u'))
def Fy:mT qf 0 rV (fun x=>x.u'):=ci
def Mm:gn qf 0 rV (fun x y=>{x with u':=y}):=bW ae (fun _ _=>rfl)
def sP(y:bD)(v0:Value):Sh:=⟨v0⟩
def IW: ∀S,qf.rc S [.slice none 0 0] (sP ((⟨[]⟩:bD)) (ak none 0 0)):=fun _=>⟨rfl,rfl⟩
structure Ok where
 Op:Int
 A:Int
 B:Int
 M':Int
 U':(List Int)
 Left:Bool
 f_:bD
 I':(List Int)
 L':Value
 N':(List bD)
 Y':(List px)
 Z':Int
def mH:Rp Ok:=nS (cu (rI .i64) (cu (rI .i64) (cu (rI .i64) (cu (rI .i64) (cu (eW (rI .i64)) (cu rB (cu cg (cu (eW (rI .i64)) (cu rV (cu (eW cg) (cu (eW kz) (rI .i64)))))))))))) (fun x=>(x.Op,x.A,x.B,x.M',x.U',x.Left,x.f_,x.I',x.L',x.N',x.Y',x.Z'))
def Ks:gn mH 0 (rI .i64) (fun x y=>{x with Op:=y}):=bW cT (fun _ _=>rfl)
def Kr:gn mH 7 (eW (rI .i64)) (fun x y=>{x with I':=y}):=bW (aA (aA (aA (aA (aA (aA (aA cT rfl) rfl) rfl) rfl) rfl) rfl) rfl) (fun _ _=>rfl)
def La:mT mH 8 rV (fun x=>x.L'):=(dz (av (av (av (av (av (av (av (av ci rfl) rfl) rfl) rfl) rfl) rfl) rfl) rfl))
def pP(y:ac)(v8:Value):Ok:=⟨y.Op,y.A,y.B,y.M',y.U',y.Left,y.f_,y.I',v8,y.N',y.Y',y.Z'⟩
def GL: ∀S,mH.rc S [.int .i64 0,.int .i64 0,.int .i64 0,.int .i64 0,.slice none 0 0,.bool false,.slice none 0 0,.slice none 0 0,.slice none 0 0,.slice none 0 0,.slice none 0 0,.int .i64 0] (pP ((⟨(0:Int),(0:Int),(0:Int),(0:Int),[],false,(⟨[]⟩:bD),[],[],[],[],(0:Int)⟩:ac)) (ak none 0 0)):=fun _=>⟨[.int .i64 0],[.int .i64 0,.int .i64 0,.int .i64 0,.slice none 0 0,.bool false,.slice none 0 0,.slice none 0 0,.slice none 0 0,.slice none 0 0,.slice none 0 0,.int .i64 0],rfl,rfl,⟨[.int .i64 0],[.int .i64 0,.int .i64 0,.slice none 0 0,.bool false,.slice none 0 0,.slice none 0 0,.slice none 0 0,.slice none 0 0,.slice none 0 0,.int .i64 0],rfl,rfl,⟨[.int .i64 0],[.int .i64 0,.slice none 0 0,.bool false,.slice none 0 0,.slice none 0 0,.slice none 0 0,.slice none 0 0,.slice none 0 0,.int .i64 0],rfl,rfl,⟨[.int .i64 0],[.slice none 0 0,.bool false,.slice none 0 0,.slice none 0 0,.slice none 0 0,.slice none 0 0,.slice none 0 0,.int .i64 0],rfl,rfl,⟨[.slice none 0 0],[.bool false,.slice none 0 0,.slice none 0 0,.slice none 0 0,.slice none 0 0,.slice none 0 0,.int .i64 0],rfl,⟨none,0,rfl,eX _,kY _,.inl rfl⟩,⟨[.bool false],[.slice none 0 0,.slice none 0 0,.slice none 0 0,.slice none 0 0,.slice none 0 0,.int .i64 0],rfl,rfl,⟨[.slice none 0 0],[.slice none 0 0,.slice none 0 0,.slice none 0 0,.slice none 0 0,.int .i64 0],rfl,te _,⟨[.slice none 0 0],[.slice none 0 0,.slice none 0 0,.slice none 0 0,.int .i64 0],rfl,⟨none,0,rfl,eX _,kY _,.inl rfl⟩,⟨[.slice none 0 0],[.slice none 0 0,.slice none 0 0,.int .i64 0],rfl,⟨rfl,rfl⟩,⟨[.slice none 0 0],[.slice none 0 0,.int .i64 0],rfl,⟨none,0,rfl,eX _,kY _,.inl rfl⟩,⟨[.slice none 0 0],[.int .i64 0],rfl,⟨none,0,rfl,eX _,kY _,.inl rfl⟩,rfl⟩⟩⟩⟩⟩⟩⟩⟩⟩⟩⟩
structure H7 where
 Op:Int
 A:Int
 B:Int
 M':Int
 U':(List Int)
 Left:Bool
 f_:bD
 I':(List Int)
 L':Value
 N':Value
 Y':(List px)
 Z':Int
def oe:Rp H7:=nS (cu (rI .i64) (cu (rI .i64) (cu (rI .i64) (cu (rI .i64) (cu (eW (rI .i64)) (cu rB (cu cg (cu (eW (rI .i64)) (cu rV (cu rV (cu (eW kz) (rI .i64)))))))))))) (fun x=>(x.Op,x.A,x.B,x.M',x.U',x.Left,x.f_,x.I',x.L',x.N',x.Y',x.Z'))
def wH:mT oe 8 rV (fun x=>x.L'):=(dz (av (av (av (av (av (av (av (av ci rfl) rfl) rfl) rfl) rfl) rfl) rfl) rfl))
def wG:mT oe 9 rV (fun x=>x.N'):=(dz (av (av (av (av (av (av (av (av (av ci rfl) rfl) rfl) rfl) rfl) rfl) rfl) rfl) rfl))
def q9(y:ac)(v8:Value)(v9:Value):H7:=⟨y.Op,y.A,y.B,y.M',y.U',y.Left,y.f_,y.I',v8,v9,y.Y',y.Z'⟩
structure Sc where
 A':Value
 j':(List Int)
 h_:Int
 V':(List Int)
def nc:Rp Sc:=nS (cu rV (cu (eW (rI .i64)) (cu (rI .i64) (eW (rI .i64))))) (fun x=>(x.A',x.j',x.h_,x.V'))
def vd:mT nc 0 rV (fun x=>x.A'):=(dz ci)
def Ml:gn nc 1 (eW (rI .i64)) (fun x y=>{x with j':=y}):=bW (aA cT rfl) (fun _ _=>rfl)
def Mk:gn nc 2 (rI .i64) (fun x y=>{x with h_:=y}):=bW (aA (aA cT rfl) rfl) (fun _ _=>rfl)
def ql(y:be)(v0:Value):Sc:=⟨v0,y.j',y.h_,y.V'⟩
def IV: ∀S,nc.rc S [.slice none 0 0,.slice none 0 0,.int .i64 0,.slice none 0 0] (ql ((⟨[],[],(0:Int),[]⟩:be)) (ak none 0 0)):=fun _=>⟨[.slice none 0 0],[.slice none 0 0,.int .i64 0,.slice none 0 0],rfl,⟨rfl,rfl⟩,⟨[.slice none 0 0],[.int .i64 0,.slice none 0 0],rfl,⟨none,0,rfl,eX _,kY _,.inl rfl⟩,⟨[.int .i64 0],[.slice none 0 0],rfl,rfl,⟨none,0,rfl,eX _,kY _,.inl rfl⟩⟩⟩⟩
structure FN where
 c_:dp
 c:bo
 j':Value
def jO:Rp FN:=nS (cu cw (cu eH rV)) (fun x=>(x.c_,x.c,x.j'))
def F4:gn jO 0 cw (fun x y=>{x with c_:=y}):=bW cT (fun _ _=>rfl)
def F3:gn jO 1 eH (fun x y=>{x with c:=y}):=bW (aA cT rfl) (fun _ _=>rfl)
def F9:mT jO 2 rV (fun x=>x.j'):=(av (av ci rfl) rfl)
def lP(y:df)(v2:Value):FN:=⟨y.c_,y.c,v2⟩
def Ij: ∀S,jO.rc S [.slice none 0 0,.slice none 0 0,.slice none 0 0] (lP ((⟨(⟨[]⟩:dp),(⟨[]⟩:bo),[]⟩:df)) (ak none 0 0)):=fun _=>⟨[.slice none 0 0],[.slice none 0 0,.slice none 0 0],rfl,vF _,⟨[.slice none 0 0],[.slice none 0 0],rfl,yL _,⟨rfl,rfl⟩⟩⟩
structure Sf where
 A':(List ac)
 j':(List (List Int))
 D':(List Int)
 n:ac
 a_:(List Int)
 b:(List Int)
 B':Value
def cE:Rp Sf:=nS (cu (eW al) (cu (eW (eW (rI .i64))) (cu (Xq:Rp (List Int)) (cu al (cu (eW (rI .i64)) (cu (eW (rI .i64)) rV)))))) (fun x=>(x.A',x.j',x.D',x.n,x.a_,x.b,x.B'))
def Az:mT cE 3 al (fun x=>x.n):=(dz (av (av (av ci rfl) rfl) rfl))
def m7:mT cE 15 (eW (rI .i64)) (fun x=>x.a_):=(dz (av (av (av (av ci rfl) rfl) rfl) rfl))
def NF:mT cE 16 (eW (rI .i64)) (fun x=>x.b):=(dz (av (av (av (av (av ci rfl) rfl) rfl) rfl) rfl))
def ov:mT cE 17 rV (fun x=>x.B'):=(av (av (av (av (av (av ci rfl) rfl) rfl) rfl) rfl) rfl)
def db(y:ap)(v6:Value):Sf:=⟨y.A',y.j',y.D',y.n,y.a_,y.b,v6⟩
def Gc{S:SH}{cs:List Value}{y:cQ}{v0:Value}{xs0:(List ac)}(k0:(eW al).rc S [v0] xs0)(h:sf.rc S cs (ur y v0)):dO.rc S cs ((⟨xs0⟩:cQ)):=by
 have h0:=h
 exact(by rw [h0.1];exact k0)
def H0{S:SH}{cs:List Value}{y:bD}{v0:Value}{xs0:(List bw)}(k0:(eW bJ).rc S [v0] xs0)(h:qf.rc S cs (sP y v0)):cg.rc S cs ((⟨xs0⟩:bD)):=by
 have h0:=h
 exact(by rw [h0.1];exact k0)
def Gd{S:SH}{cs:List Value}{y:ac}{v8:Value}{xs8:(List fh)}(k8:(eW eg).rc S [v8] xs8)(h:mH.rc S cs (pP y v8)):al.rc S cs ((⟨y.Op,y.A,y.B,y.M',y.U',y.Left,y.f_,y.I',xs8,y.N',y.Y',y.Z'⟩:ac)):=by
 obtain⟨a0,b0,e0,h0,a1,b1,e1,D,a2,b2,e2,V,a3,b3,e3,Z,a4,b4,e4,h4,a5,b5,e5,h5,a6,b6,e6,h6,a7,b7,e7,h7,a8,b8,e8,h8,a9,b9,e9,h9,a10,b10,e10,h10,h11⟩:=h
 exact⟨a0,b0,e0,h0,a1,b1,e1,D,a2,b2,e2,V,a3,b3,e3,Z,a4,b4,e4,h4,a5,b5,e5,h5,a6,b6,e6,h6,a7,b7,e7,h7,a8,b8,e8,(by rw [h8.1];exact k8),a9,b9,e9,h9,a10,b10,e10,h10,h11⟩
def DD{S:SH}{cs:List Value}{y:ac}{v8:Value}{v9:Value}{xs8:(List fh)}(k8:(eW eg).rc S [v8] xs8){xs9:(List bD)}(k9:(eW cg).rc S [v9] xs9)(h:oe.rc S cs (q9 y v8 v9)):al.rc S cs ((⟨y.Op,y.A,y.B,y.M',y.U',y.Left,y.f_,y.I',xs8,xs9,y.Y',y.Z'⟩:ac)):=by
 obtain⟨a0,b0,e0,h0,a1,b1,e1,D,a2,b2,e2,V,a3,b3,e3,Z,a4,b4,e4,h4,a5,b5,e5,h5,a6,b6,e6,h6,a7,b7,e7,h7,a8,b8,e8,h8,a9,b9,e9,h9,a10,b10,e10,h10,h11⟩:=h
 exact⟨a0,b0,e0,h0,a1,b1,e1,D,a2,b2,e2,V,a3,b3,e3,Z,a4,b4,e4,h4,a5,b5,e5,h5,a6,b6,e6,h6,a7,b7,e7,h7,a8,b8,e8,(by rw [h8.1];exact k8),a9,b9,e9,(by rw [h9.1];exact k9),a10,b10,e10,h10,h11⟩
def HY{S:SH}{cs:List Value}{y:be}{v0:Value}{xs0:(List ac)}(k0:(eW al).rc S [v0] xs0)(h:nc.rc S cs (ql y v0)):aq.rc S cs ((⟨xs0,y.j',y.h_,y.V'⟩:be)):=by
 obtain⟨a0,b0,e0,h0,a1,b1,e1,D,a2,b2,e2,V,Z⟩:=h
 exact⟨a0,b0,e0,(by rw [h0.1];exact k0),a1,b1,e1,D,a2,b2,e2,V,Z⟩
def sy{S:SH}{cs:List Value}{y:df}{v2:Value}{xs2:(List (List (List Int)))}(k2:(eW (eW (eW (rI .i64)))).rc S [v2] xs2)(h:jO.rc S cs (lP y v2)):iR.rc S cs ((⟨y.c_,y.c,xs2⟩:df)):=by
 obtain⟨a0,b0,e0,h0,a1,b1,e1,D,V⟩:=h
 exact⟨a0,b0,e0,h0,a1,b1,e1,D,(by rw [V.1];exact k2)⟩
def kK{S:SH}{cs:List Value}{y:ap}{v6:Value}{xs6:(List Int)}(k6:(eW (rI .i64)).rc S [v6] xs6)(h:cE.rc S cs (db y v6)):bG.rc S cs ((⟨y.A',y.j',y.D',y.n,y.a_,y.b,xs6⟩:ap)):=by
 obtain⟨a0,b0,e0,h0,a1,b1,e1,D,a2,b2,e2,V,a3,b3,e3,Z,a4,b4,e4,h4,a5,b5,e5,h5,h6⟩:=h
 exact⟨a0,b0,e0,h0,a1,b1,e1,D,a2,b2,e2,V,a3,b3,e3,Z,a4,b4,e4,h4,a5,b5,e5,h5,(by rw [h6.1];exact k6)⟩
def z7(y:cQ)(u:Value)(v:Value):rP sf sf 0 rV (ur y u) v (ur y v):=xg (o6 rfl) rfl
def Cd(y:ac)(v:Value):rP al mH 8 rV (y) v (pP y v):=xg (eS (eS (eS (eS (eS (eS (eS (eS (Gl (o6 rfl) rfl) rfl) rfl) rfl) rfl) rfl) rfl) rfl) rfl) rfl
def z8(y:ac)(u:Value)(v:Value):rP mH mH 8 rV (pP y u) v (pP y v):=xg (eS (eS (eS (eS (eS (eS (eS (eS (Gl (o6 rfl) rfl) rfl) rfl) rfl) rfl) rfl) rfl) rfl) rfl) rfl
def yT(y:ac)(v8:Value)(v:Value):rP mH oe 9 rV (pP y v8) v (q9 y v8 v):=xg (eS (eS (eS (eS (eS (eS (eS (eS (eS (Gl (o6 rfl) rfl) rfl) rfl) rfl) rfl) rfl) rfl) rfl) rfl) rfl) rfl
def vB(y:be)(u:Value)(v:Value):rP nc nc 0 rV (ql y u) v (ql y v):=xg (Gl (o6 rfl) rfl) rfl
def xZ(y:df)(u:Value)(v:Value):rP jO jO 2 rV (lP y u) v (lP y v):=xg (eS (eS (o6 rfl) rfl) rfl) rfl
def oc(y:ap)(v:Value):rP bG cE 17 rV (y) v (db y v):=xg (eS (eS (eS (eS (eS (eS (o6 rfl) rfl) rfl) rfl) rfl) rfl) rfl) rfl
def kN(y:ap)(u:Value)(v:Value):rP cE cE 17 rV (db y u) v (db y v):=xg (eS (eS (eS (eS (eS (eS (o6 rfl) rfl) rfl) rfl) rfl) rfl) rfl) rfl
def kq(b:Nat)(x:aF)(i:OI):List OE:=[bx (rH bP [(1,ak (i.h 0).1 (i.h 0).2 x.j'.length),(2,ak (i.h 1).1 (i.h 1).2 x.first.length)]) 95 b x,dM (eW (rI .i64)) 40 (i.h 0).1 (i.h 0).2 x.j',dM (rI .i64) 3 (i.h 1).1 (i.h 1).2 x.first]
def jW(b:Nat)(x:aK)(i:OI):List OE:=[bx (rH bB [(0,ak (i.h 0).1 (i.h 0).2 x.c_.J'.length),(3,ak (i.h 1).1 (i.h 1).2 x.j'.length)]) 73 b x,dM bk 50 (i.h 0).1 (i.h 0).2 x.c_.J',dM (eW (rI .i64)) 40 (i.h 1).1 (i.h 1).2 x.j']
def fW(b:Nat)(x:ap)(i:OI):List OE:=[bx (rH bG [(1,ak (i.h 0).1 (i.h 0).2 x.j'.length),(2,ak (i.h 1).1 (i.h 1).2 x.D'.length)]) 145 b x,dM (eW (rI .i64)) 40 (i.h 0).1 (i.h 0).2 x.j',fa (rI .i64) 3 (i.h 1).1 (i.h 1).2 x.D']
def aaG(b:Nat)(x:ap)(i:OI):List OE:=[bx (rH cE [(1,ak (i.h 0).1 (i.h 0).2 x.j'.length),(2,ak (i.h 1).1 (i.h 1).2 x.D'.length)]) 145 b (db x (ak (i.h 2).1 (i.h 2).2 x.B'.length)),dM (eW (rI .i64)) 40 (i.h 0).1 (i.h 0).2 x.j',fa (rI .i64) 3 (i.h 1).1 (i.h 1).2 x.D',fa (rI .i64) 3 (i.h 2).1 (i.h 2).2 x.B']
def gv0:(List JZ):=[(⟨[98,111,111,108],(1:Int)⟩:JZ),(⟨[105,110,116],(2:Int)⟩:JZ),(⟨[116,101,120,116],(3:Int)⟩:JZ)]
def gm0:((0:Nat),([.string ⟨([98,111,111,108]:List UInt8).toArray⟩,.int .i64 (1),.string ⟨([105,110,116]:List UInt8).toArray⟩,.int .i64 (2),.string ⟨([116,101,120,116]:List UInt8).toArray⟩,.int .i64 (3)]:List Value))∈glob:=by simp [glob]
def gr0: ∀S,(sj A1 3).rc S ([.string ⟨([98,111,111,108]:List UInt8).toArray⟩,.int .i64 (1),.string ⟨([105,110,116]:List UInt8).toArray⟩,.int .i64 (2),.string ⟨([116,101,120,116]:List UInt8).toArray⟩,.int .i64 (3)]:List Value) gv0:=fun _=>⟨rfl,⟨[.string ⟨([98,111,111,108]:List UInt8).toArray⟩,.int .i64 (1)],[.string ⟨([105,110,116]:List UInt8).toArray⟩,.int .i64 (2),.string ⟨([116,101,120,116]:List UInt8).toArray⟩,.int .i64 (3)],rfl,⟨[.string ⟨([98,111,111,108]:List UInt8).toArray⟩],[.int .i64 (1)],rfl,rfl,rfl⟩,⟨[.string ⟨([105,110,116]:List UInt8).toArray⟩,.int .i64 (2)],[.string ⟨([116,101,120,116]:List UInt8).toArray⟩,.int .i64 (3)],rfl,⟨[.string ⟨([105,110,116]:List UInt8).toArray⟩],[.int .i64 (2)],rfl,rfl,rfl⟩,⟨[.string ⟨([116,101,120,116]:List UInt8).toArray⟩,.int .i64 (3)],[],rfl,⟨[.string ⟨([116,101,120,116]:List UInt8).toArray⟩],[.int .i64 (3)],rfl,rfl,rfl⟩,(rfl:_=[])⟩⟩⟩⟩
def gv1:(List ru):=[[83,69,76,69,67,84],[68,73,83,84,73,78,67,84],[70,82,79,77],[76,69,70,84],[74,79,73,78],[79,78],[87,72,69,82,69],[71,82,79,85,80],[66,89],[72,65,86,73,78,71],[85,78,73,79,78],[65,76,76],[79,82,68,69,82],[76,73,77,73,84],[65,83,67],[68,69,83,67],[65,83],[65,78,68],[79,82],[78,79,84],[73,83],[78,85,76,76],[84,82,85,69],[70,65,76,83,69],[67,79,85,78,84],[83,85,77],[77,73,78],[77,65,88]]
def gm1:((1:Nat),([.string ⟨([83,69,76,69,67,84]:List UInt8).toArray⟩,.string ⟨([68,73,83,84,73,78,67,84]:List UInt8).toArray⟩,.string ⟨([70,82,79,77]:List UInt8).toArray⟩,.string ⟨([76,69,70,84]:List UInt8).toArray⟩,.string ⟨([74,79,73,78]:List UInt8).toArray⟩,.string ⟨([79,78]:List UInt8).toArray⟩,.string ⟨([87,72,69,82,69]:List UInt8).toArray⟩,.string ⟨([71,82,79,85,80]:List UInt8).toArray⟩,.string ⟨([66,89]:List UInt8).toArray⟩,.string ⟨([72,65,86,73,78,71]:List UInt8).toArray⟩,.string ⟨([85,78,73,79,78]:List UInt8).toArray⟩,.string ⟨([65,76,76]:List UInt8).toArray⟩,.string ⟨([79,82,68,69,82]:List UInt8).toArray⟩,.string ⟨([76,73,77,73,84]:List UInt8).toArray⟩,.string ⟨([65,83,67]:List UInt8).toArray⟩,.string ⟨([68,69,83,67]:List UInt8).toArray⟩,.string ⟨([65,83]:List UInt8).toArray⟩,.string ⟨([65,78,68]:List UInt8).toArray⟩,.string ⟨([79,82]:List UInt8).toArray⟩,.string ⟨([78,79,84]:List UInt8).toArray⟩,.string ⟨([73,83]:List UInt8).toArray⟩,.string ⟨([78,85,76,76]:List UInt8).toArray⟩,.string ⟨([84,82,85,69]:List UInt8).toArray⟩,.string ⟨([70,65,76,83,69]:List UInt8).toArray⟩,.string ⟨([67,79,85,78,84]:List UInt8).toArray⟩,.string ⟨([83,85,77]:List UInt8).toArray⟩,.string ⟨([77,73,78]:List UInt8).toArray⟩,.string ⟨([77,65,88]:List UInt8).toArray⟩]:List Value))∈glob:=by simp [glob]
def gr1: ∀S,(sj rS 28).rc S ([.string ⟨([83,69,76,69,67,84]:List UInt8).toArray⟩,.string ⟨([68,73,83,84,73,78,67,84]:List UInt8).toArray⟩,.string ⟨([70,82,79,77]:List UInt8).toArray⟩,.string ⟨([76,69,70,84]:List UInt8).toArray⟩,.string ⟨([74,79,73,78]:List UInt8).toArray⟩,.string ⟨([79,78]:List UInt8).toArray⟩,.string ⟨([87,72,69,82,69]:List UInt8).toArray⟩,.string ⟨([71,82,79,85,80]:List UInt8).toArray⟩,.string ⟨([66,89]:List UInt8).toArray⟩,.string ⟨([72,65,86,73,78,71]:List UInt8).toArray⟩,.string ⟨([85,78,73,79,78]:List UInt8).toArray⟩,.string ⟨([65,76,76]:List UInt8).toArray⟩,.string ⟨([79,82,68,69,82]:List UInt8).toArray⟩,.string ⟨([76,73,77,73,84]:List UInt8).toArray⟩,.string ⟨([65,83,67]:List UInt8).toArray⟩,.string ⟨([68,69,83,67]:List UInt8).toArray⟩,.string ⟨([65,83]:List UInt8).toArray⟩,.string ⟨([65,78,68]:List UInt8).toArray⟩,.string ⟨([79,82]:List UInt8).toArray⟩,.string ⟨([78,79,84]:List UInt8).toArray⟩,.string ⟨([73,83]:List UInt8).toArray⟩,.string ⟨([78,85,76,76]:List UInt8).toArray⟩,.string ⟨([84,82,85,69]:List UInt8).toArray⟩,.string ⟨([70,65,76,83,69]:List UInt8).toArray⟩,.string ⟨([67,79,85,78,84]:List UInt8).toArray⟩,.string ⟨([83,85,77]:List UInt8).toArray⟩,.string ⟨([77,73,78]:List UInt8).toArray⟩,.string ⟨([77,65,88]:List UInt8).toArray⟩]:List Value) gv1:=fun _=>⟨rfl,⟨[.string ⟨([83,69,76,69,67,84]:List UInt8).toArray⟩],[.string ⟨([68,73,83,84,73,78,67,84]:List UInt8).toArray⟩,.string ⟨([70,82,79,77]:List UInt8).toArray⟩,.string ⟨([76,69,70,84]:List UInt8).toArray⟩,.string ⟨([74,79,73,78]:List UInt8).toArray⟩,.string ⟨([79,78]:List UInt8).toArray⟩,.string ⟨([87,72,69,82,69]:List UInt8).toArray⟩,.string ⟨([71,82,79,85,80]:List UInt8).toArray⟩,.string ⟨([66,89]:List UInt8).toArray⟩,.string ⟨([72,65,86,73,78,71]:List UInt8).toArray⟩,.string ⟨([85,78,73,79,78]:List UInt8).toArray⟩,.string ⟨([65,76,76]:List UInt8).toArray⟩,.string ⟨([79,82,68,69,82]:List UInt8).toArray⟩,.string ⟨([76,73,77,73,84]:List UInt8).toArray⟩,.string ⟨([65,83,67]:List UInt8).toArray⟩,.string ⟨([68,69,83,67]:List UInt8).toArray⟩,.string ⟨([65,83]:List UInt8).toArray⟩,.string ⟨([65,78,68]:List UInt8).toArray⟩,.string ⟨([79,82]:List UInt8).toArray⟩,.string ⟨([78,79,84]:List UInt8).toArray⟩,.string ⟨([73,83]:List UInt8).toArray⟩,.string ⟨([78,85,76,76]:List UInt8).toArray⟩,.string ⟨([84,82,85,69]:List UInt8).toArray⟩,.string ⟨([70,65,76,83,69]:List UInt8).toArray⟩,.string ⟨([67,79,85,78,84]:List UInt8).toArray⟩,.string ⟨([83,85,77]:List UInt8).toArray⟩,.string ⟨([77,73,78]:List UInt8).toArray⟩,.string ⟨([77,65,88]:List UInt8).toArray⟩],rfl,rfl,⟨[.string ⟨([68,73,83,84,73,78,67,84]:List UInt8).toArray⟩],[.string ⟨([70,82,79,77]:List UInt8).toArray⟩,.string ⟨([76,69,70,84]:List UInt8).toArray⟩,.string ⟨([74,79,73,78]:List UInt8).toArray⟩,.string ⟨([79,78]:List UInt8).toArray⟩,.string ⟨([87,72,69,82,69]:List UInt8).toArray⟩,.string ⟨([71,82,79,85,80]:List UInt8).toArray⟩,.string ⟨([66,89]:List UInt8).toArray⟩,.string ⟨([72,65,86,73,78,71]:List UInt8).toArray⟩,.string ⟨([85,78,73,79,78]:List UInt8).toArray⟩,.string ⟨([65,76,76]:List UInt8).toArray⟩,.string ⟨([79,82,68,69,82]:List UInt8).toArray⟩,.string ⟨([76,73,77,73,84]:List UInt8).toArray⟩,.string ⟨([65,83,67]:List UInt8).toArray⟩,.string ⟨([68,69,83,67]:List UInt8).toArray⟩,.string ⟨([65,83]:List UInt8).toArray⟩,.string ⟨([65,78,68]:List UInt8).toArray⟩,.string ⟨([79,82]:List UInt8).toArray⟩,.string ⟨([78,79,84]:List UInt8).toArray⟩,.string ⟨([73,83]:List UInt8).toArray⟩,.string ⟨([78,85,76,76]:List UInt8).toArray⟩,.string ⟨([84,82,85,69]:List UInt8).toArray⟩,.string ⟨([70,65,76,83,69]:List UInt8).toArray⟩,.string ⟨([67,79,85,78,84]:List UInt8).toArray⟩,.string ⟨([83,85,77]:List UInt8).toArray⟩,.string ⟨([77,73,78]:List UInt8).toArray⟩,.string ⟨([77,65,88]:List UInt8).toArray⟩],rfl,rfl,⟨[.string ⟨([70,82,79,77]:List UInt8).toArray⟩],[.string ⟨([76,69,70,84]:List UInt8).toArray⟩,.string ⟨([74,79,73,78]:List UInt8).toArray⟩,.string ⟨([79,78]:List UInt8).toArray⟩,.string ⟨([87,72,69,82,69]:List UInt8).toArray⟩,.string ⟨([71,82,79,85,80]:List UInt8).toArray⟩,.string ⟨([66,89]:List UInt8).toArray⟩,.string ⟨([72,65,86,73,78,71]:List UInt8).toArray⟩,.string ⟨([85,78,73,79,78]:List UInt8).toArray⟩,.string ⟨([65,76,76]:List UInt8).toArray⟩,.string ⟨([79,82,68,69,82]:List UInt8).toArray⟩,.string ⟨([76,73,77,73,84]:List UInt8).toArray⟩,.string ⟨([65,83,67]:List UInt8).toArray⟩,.string ⟨([68,69,83,67]:List UInt8).toArray⟩,.string ⟨([65,83]:List UInt8).toArray⟩,.string ⟨([65,78,68]:List UInt8).toArray⟩,.string ⟨([79,82]:List UInt8).toArray⟩,.string ⟨([78,79,84]:List UInt8).toArray⟩,.string ⟨([73,83]:List UInt8).toArray⟩,.string ⟨([78,85,76,76]:List UInt8).toArray⟩,.string ⟨([84,82,85,69]:List UInt8).toArray⟩,.string ⟨([70,65,76,83,69]:List UInt8).toArray⟩,.string ⟨([67,79,85,78,84]:List UInt8).toArray⟩,.string ⟨([83,85,77]:List UInt8).toArray⟩,.string ⟨([77,73,78]:List UInt8).toArray⟩,.string ⟨([77,65,88]:List UInt8).toArray⟩],rfl,rfl,⟨[.string ⟨([76,69,70,84]:List UInt8).toArray⟩],[.string ⟨([74,79,73,78]:List UInt8).toArray⟩,.string ⟨([79,78]:List UInt8).toArray⟩,.string ⟨([87,72,69,82,69]:List UInt8).toArray⟩,.string ⟨([71,82,79,85,80]:List UInt8).toArray⟩,.string ⟨([66,89]:List UInt8).toArray⟩,.string ⟨([72,65,86,73,78,71]:List UInt8).toArray⟩,.string ⟨([85,78,73,79,78]:List UInt8).toArray⟩,.string ⟨([65,76,76]:List UInt8).toArray⟩,.string ⟨([79,82,68,69,82]:List UInt8).toArray⟩,.string ⟨([76,73,77,73,84]:List UInt8).toArray⟩,.string ⟨([65,83,67]:List UInt8).toArray⟩,.string ⟨([68,69,83,67]:List UInt8).toArray⟩,.string ⟨([65,83]:List UInt8).toArray⟩,.string ⟨([65,78,68]:List UInt8).toArray⟩,.string ⟨([79,82]:List UInt8).toArray⟩,.string ⟨([78,79,84]:List UInt8).toArray⟩,.string ⟨([73,83]:List UInt8).toArray⟩,.string ⟨([78,85,76,76]:List UInt8).toArray⟩,.string ⟨([84,82,85,69]:List UInt8).toArray⟩,.string ⟨([70,65,76,83,69]:List UInt8).toArray⟩,.string ⟨([67,79,85,78,84]:List UInt8).toArray⟩,.string ⟨([83,85,77]:List UInt8).toArray⟩,.string ⟨([77,73,78]:List UInt8).toArray⟩,.string ⟨([77,65,88]:List UInt8).toArray⟩],rfl,rfl,⟨[.string ⟨([74,79,73,78]:List UInt8).toArray⟩],[.string ⟨([79,78]:List UInt8).toArray⟩,.string ⟨([87,72,69,82,69]:List UInt8).toArray⟩,.string ⟨([71,82,79,85,80]:List UInt8).toArray⟩,.string ⟨([66,89]:List UInt8).toArray⟩,.string ⟨([72,65,86,73,78,71]:List UInt8).toArray⟩,.string ⟨([85,78,73,79,78]:List UInt8).toArray⟩,.string ⟨([65,76,76]:List UInt8).toArray⟩,.string ⟨([79,82,68,69,82]:List UInt8).toArray⟩,.string ⟨([76,73,77,73,84]:List UInt8).toArray⟩,.string ⟨([65,83,67]:List UInt8).toArray⟩,.string ⟨([68,69,83,67]:List UInt8).toArray⟩,.string ⟨([65,83]:List UInt8).toArray⟩,.string ⟨([65,78,68]:List UInt8).toArray⟩,.string ⟨([79,82]:List UInt8).toArray⟩,.string ⟨([78,79,84]:List UInt8).toArray⟩,.string ⟨([73,83]:List UInt8).toArray⟩,.string ⟨([78,85,76,76]:List UInt8).toArray⟩,.string ⟨([84,82,85,69]:List UInt8).toArray⟩,.string ⟨([70,65,76,83,69]:List UInt8).toArray⟩,.string ⟨([67,79,85,78,84]:List UInt8).toArray⟩,.string ⟨([83,85,77]:List UInt8).toArray⟩,.string ⟨([77,73,78]:List UInt8).toArray⟩,.string ⟨([77,65,88]:List UInt8).toArray⟩],rfl,rfl,⟨[.string ⟨([79,78]:List UInt8).toArray⟩],[.string ⟨([87,72,69,82,69]:List UInt8).toArray⟩,.string ⟨([71,82,79,85,80]:List UInt8).toArray⟩,.string ⟨([66,89]:List UInt8).toArray⟩,.string ⟨([72,65,86,73,78,71]:List UInt8).toArray⟩,.string ⟨([85,78,73,79,78]:List UInt8).toArray⟩,.string ⟨([65,76,76]:List UInt8).toArray⟩,.string ⟨([79,82,68,69,82]:List UInt8).toArray⟩,.string ⟨([76,73,77,73,84]:List UInt8).toArray⟩,.string ⟨([65,83,67]:List UInt8).toArray⟩,.string ⟨([68,69,83,67]:List UInt8).toArray⟩,.string ⟨([65,83]:List UInt8).toArray⟩,.string ⟨([65,78,68]:List UInt8).toArray⟩,.string ⟨([79,82]:List UInt8).toArray⟩,.string ⟨([78,79,84]:List UInt8).toArray⟩,.string ⟨([73,83]:List UInt8).toArray⟩,.string ⟨([78,85,76,76]:List UInt8).toArray⟩,.string ⟨([84,82,85,69]:List UInt8).toArray⟩,.string ⟨([70,65,76,83,69]:List UInt8).toArray⟩,.string ⟨([67,79,85,78,84]:List UInt8).toArray⟩,.string ⟨([83,85,77]:List UInt8).toArray⟩,.string ⟨([77,73,78]:List UInt8).toArray⟩,.string ⟨([77,65,88]:List UInt8).toArray⟩],rfl,rfl,⟨[.string ⟨([87,72,69,82,69]:List UInt8).toArray⟩],[.string ⟨([71,82,79,85,80]:List UInt8).toArray⟩,.string ⟨([66,89]:List UInt8).toArray⟩,.string ⟨([72,65,86,73,78,71]:List UInt8).toArray⟩,.string ⟨([85,78,73,79,78]:List UInt8).toArray⟩,.string ⟨([65,76,76]:List UInt8).toArray⟩,.string ⟨([79,82,68,69,82]:List UInt8).toArray⟩,.string ⟨([76,73,77,73,84]:List UInt8).toArray⟩,.string ⟨([65,83,67]:List UInt8).toArray⟩,.string ⟨([68,69,83,67]:List UInt8).toArray⟩,.string ⟨([65,83]:List UInt8).toArray⟩,.string ⟨([65,78,68]:List UInt8).toArray⟩,.string ⟨([79,82]:List UInt8).toArray⟩,.string ⟨([78,79,84]:List UInt8).toArray⟩,.string ⟨([73,83]:List UInt8).toArray⟩,.string ⟨([78,85,76,76]:List UInt8).toArray⟩,.string ⟨([84,82,85,69]:List UInt8).toArray⟩,.string ⟨([70,65,76,83,69]:List UInt8).toArray⟩,.string ⟨([67,79,85,78,84]:List UInt8).toArray⟩,.string ⟨([83,85,77]:List UInt8).toArray⟩,.string ⟨([77,73,78]:List UInt8).toArray⟩,.string ⟨([77,65,88]:List UInt8).toArray⟩],rfl,rfl,⟨[.string ⟨([71,82,79,85,80]:List UInt8).toArray⟩],[.string ⟨([66,89]:List UInt8).toArray⟩,.string ⟨([72,65,86,73,78,71]:List UInt8).toArray⟩,.string ⟨([85,78,73,79,78]:List UInt8).toArray⟩,.string ⟨([65,76,76]:List UInt8).toArray⟩,.string ⟨([79,82,68,69,82]:List UInt8).toArray⟩,.string ⟨([76,73,77,73,84]:List UInt8).toArray⟩,.string ⟨([65,83,67]:List UInt8).toArray⟩,.string ⟨([68,69,83,67]:List UInt8).toArray⟩,.string ⟨([65,83]:List UInt8).toArray⟩,.string ⟨([65,78,68]:List UInt8).toArray⟩,.string ⟨([79,82]:List UInt8).toArray⟩,.string ⟨([78,79,84]:List UInt8).toArray⟩,.string ⟨([73,83]:List UInt8).toArray⟩,.string ⟨([78,85,76,76]:List UInt8).toArray⟩,.string ⟨([84,82,85,69]:List UInt8).toArray⟩,.string ⟨([70,65,76,83,69]:List UInt8).toArray⟩,.string ⟨([67,79,85,78,84]:List UInt8).toArray⟩,.string ⟨([83,85,77]:List UInt8).toArray⟩,.string ⟨([77,73,78]:List UInt8).toArray⟩,.string ⟨([77,65,88]:List UInt8).toArray⟩],rfl,rfl,⟨[.string ⟨([66,89]:List UInt8).toArray⟩],[.string ⟨([72,65,86,73,78,71]:List UInt8).toArray⟩,.string ⟨([85,78,73,79,78]:List UInt8).toArray⟩,.string ⟨([65,76,76]:List UInt8).toArray⟩,.string ⟨([79,82,68,69,82]:List UInt8).toArray⟩,.string ⟨([76,73,77,73,84]:List UInt8).toArray⟩,.string ⟨([65,83,67]:List UInt8).toArray⟩,.string ⟨([68,69,83,67]:List UInt8).toArray⟩,.string ⟨([65,83]:List UInt8).toArray⟩,.string ⟨([65,78,68]:List UInt8).toArray⟩,.string ⟨([79,82]:List UInt8).toArray⟩,.string ⟨([78,79,84]:List UInt8).toArray⟩,.string ⟨([73,83]:List UInt8).toArray⟩,.string ⟨([78,85,76,76]:List UInt8).toArray⟩,.string ⟨([84,82,85,69]:List UInt8).toArray⟩,.string ⟨([70,65,76,83,69]:List UInt8).toArray⟩,.string ⟨([67,79,85,78,84]:List UInt8).toArray⟩,.string ⟨([83,85,77]:List UInt8).toArray⟩,.string ⟨([77,73,78]:List UInt8).toArray⟩,.string ⟨([77,65,88]:List UInt8).toArray⟩],rfl,rfl,⟨[.string ⟨([72,65,86,73,78,71]:List UInt8).toArray⟩],[.string ⟨([85,78,73,79,78]:List UInt8).toArray⟩,.string ⟨([65,76,76]:List UInt8).toArray⟩,.string ⟨([79,82,68,69,82]:List UInt8).toArray⟩,.string ⟨([76,73,77,73,84]:List UInt8).toArray⟩,.string ⟨([65,83,67]:List UInt8).toArray⟩,.string ⟨([68,69,83,67]:List UInt8).toArray⟩,.string ⟨([65,83]:List UInt8).toArray⟩,.string ⟨([65,78,68]:List UInt8).toArray⟩,.string ⟨([79,82]:List UInt8).toArray⟩,.string ⟨([78,79,84]:List UInt8).toArray⟩,.string ⟨([73,83]:List UInt8).toArray⟩,.string ⟨([78,85,76,76]:List UInt8).toArray⟩,.string ⟨([84,82,85,69]:List UInt8).toArray⟩,.string ⟨([70,65,76,83,69]:List UInt8).toArray⟩,.string ⟨([67,79,85,78,84]:List UInt8).toArray⟩,.string ⟨([83,85,77]:List UInt8).toArray⟩,.string ⟨([77,73,78]:List UInt8).toArray⟩,.string ⟨([77,65,88]:List UInt8).toArray⟩],rfl,rfl,⟨[.string ⟨([85,78,73,79,78]:List UInt8).toArray⟩],[.string ⟨([65,76,76]:List UInt8).toArray⟩,.string ⟨([79,82,68,69,82]:List UInt8).toArray⟩,.string ⟨([76,73,77,73,84]:List UInt8).toArray⟩,.string ⟨([65,83,67]:List UInt8).toArray⟩,.string ⟨([68,69,83,67]:List UInt8).toArray⟩,.string ⟨([65,83]:List UInt8).toArray⟩,.string ⟨([65,78,68]:List UInt8).toArray⟩,.string ⟨([79,82]:List UInt8).toArray⟩,.string ⟨([78,79,84]:List UInt8).toArray⟩,.string ⟨([73,83]:List UInt8).toArray⟩,.string ⟨([78,85,76,76]:List UInt8).toArray⟩,.string ⟨([84,82,85,69]:List UInt8).toArray⟩,.string ⟨([70,65,76,83,69]:List UInt8).toArray⟩,.string ⟨([67,79,85,78,84]:List UInt8).toArray⟩,.string ⟨([83,85,77]:List UInt8).toArray⟩,.string ⟨([77,73,78]:List UInt8).toArray⟩,.string ⟨([77,65,88]:List UInt8).toArray⟩],rfl,rfl,⟨[.string ⟨([65,76,76]:List UInt8).toArray⟩],[.string ⟨([79,82,68,69,82]:List UInt8).toArray⟩,.string ⟨([76,73,77,73,84]:List UInt8).toArray⟩,.string ⟨([65,83,67]:List UInt8).toArray⟩,.string ⟨([68,69,83,67]:List UInt8).toArray⟩,.string ⟨([65,83]:List UInt8).toArray⟩,.string ⟨([65,78,68]:List UInt8).toArray⟩,.string ⟨([79,82]:List UInt8).toArray⟩,.string ⟨([78,79,84]:List UInt8).toArray⟩,.string ⟨([73,83]:List UInt8).toArray⟩,.string ⟨([78,85,76,76]:List UInt8).toArray⟩,.string ⟨([84,82,85,69]:List UInt8).toArray⟩,.string ⟨([70,65,76,83,69]:List UInt8).toArray⟩,.string ⟨([67,79,85,78,84]:List UInt8).toArray⟩,.string ⟨([83,85,77]:List UInt8).toArray⟩,.string ⟨([77,73,78]:List UInt8).toArray⟩,.string ⟨([77,65,88]:List UInt8).toArray⟩],rfl,rfl,⟨[.string ⟨([79,82,68,69,82]:List UInt8).toArray⟩],[.string ⟨([76,73,77,73,84]:List UInt8).toArray⟩,.string ⟨([65,83,67]:List UInt8).toArray⟩,.string ⟨([68,69,83,67]:List UInt8).toArray⟩,.string ⟨([65,83]:List UInt8).toArray⟩,.string ⟨([65,78,68]:List UInt8).toArray⟩,.string ⟨([79,82]:List UInt8).toArray⟩,.string ⟨([78,79,84]:List UInt8).toArray⟩,.string ⟨([73,83]:List UInt8).toArray⟩,.string ⟨([78,85,76,76]:List UInt8).toArray⟩,.string ⟨([84,82,85,69]:List UInt8).toArray⟩,.string ⟨([70,65,76,83,69]:List UInt8).toArray⟩,.string ⟨([67,79,85,78,84]:List UInt8).toArray⟩,.string ⟨([83,85,77]:List UInt8).toArray⟩,.string ⟨([77,73,78]:List UInt8).toArray⟩,.string ⟨([77,65,88]:List UInt8).toArray⟩],rfl,rfl,⟨[.string ⟨([76,73,77,73,84]:List UInt8).toArray⟩],[.string ⟨([65,83,67]:List UInt8).toArray⟩,.string ⟨([68,69,83,67]:List UInt8).toArray⟩,.string ⟨([65,83]:List UInt8).toArray⟩,.string ⟨([65,78,68]:List UInt8).toArray⟩,.string ⟨([79,82]:List UInt8).toArray⟩,.string ⟨([78,79,84]:List UInt8).toArray⟩,.string ⟨([73,83]:List UInt8).toArray⟩,.string ⟨([78,85,76,76]:List UInt8).toArray⟩,.string ⟨([84,82,85,69]:List UInt8).toArray⟩,.string ⟨([70,65,76,83,69]:List UInt8).toArray⟩,.string ⟨([67,79,85,78,84]:List UInt8).toArray⟩,.string ⟨([83,85,77]:List UInt8).toArray⟩,.string ⟨([77,73,78]:List UInt8).toArray⟩,.string ⟨([77,65,88]:List UInt8).toArray⟩],rfl,rfl,⟨[.string ⟨([65,83,67]:List UInt8).toArray⟩],[.string ⟨([68,69,83,67]:List UInt8).toArray⟩,.string ⟨([65,83]:List UInt8).toArray⟩,.string ⟨([65,78,68]:List UInt8).toArray⟩,.string ⟨([79,82]:List UInt8).toArray⟩,.string ⟨([78,79,84]:List UInt8).toArray⟩,.string ⟨([73,83]:List UInt8).toArray⟩,.string ⟨([78,85,76,76]:List UInt8).toArray⟩,.string ⟨([84,82,85,69]:List UInt8).toArray⟩,.string ⟨([70,65,76,83,69]:List UInt8).toArray⟩,.string ⟨([67,79,85,78,84]:List UInt8).toArray⟩,.string ⟨([83,85,77]:List UInt8).toArray⟩,.string ⟨([77,73,78]:List UInt8).toArray⟩,.string ⟨([77,65,88]:List UInt8).toArray⟩],rfl,rfl,⟨[.string ⟨([68,69,83,67]:List UInt8).toArray⟩],[.string ⟨([65,83]:List UInt8).toArray⟩,.string ⟨([65,78,68]:List UInt8).toArray⟩,.string ⟨([79,82]:List UInt8).toArray⟩,.string ⟨([78,79,84]:List UInt8).toArray⟩,.string ⟨([73,83]:List UInt8).toArray⟩,.string ⟨([78,85,76,76]:List UInt8).toArray⟩,.string ⟨([84,82,85,69]:List UInt8).toArray⟩,.string ⟨([70,65,76,83,69]:List UInt8).toArray⟩,.string ⟨([67,79,85,78,84]:List UInt8).toArray⟩,.string ⟨([83,85,77]:List UInt8).toArray⟩,.string ⟨([77,73,78]:List UInt8).toArray⟩,.string ⟨([77,65,88]:List UInt8).toArray⟩],rfl,rfl,⟨[.string ⟨([65,83]:List UInt8).toArray⟩],[.string ⟨([65,78,68]:List UInt8).toArray⟩,.string ⟨([79,82]:List UInt8).toArray⟩,.string ⟨([78,79,84]:List UInt8).toArray⟩,.string ⟨([73,83]:List UInt8).toArray⟩,.string ⟨([78,85,76,76]:List UInt8).toArray⟩,.string ⟨([84,82,85,69]:List UInt8).toArray⟩,.string ⟨([70,65,76,83,69]:List UInt8).toArray⟩,.string ⟨([67,79,85,78,84]:List UInt8).toArray⟩,.string ⟨([83,85,77]:List UInt8).toArray⟩,.string ⟨([77,73,78]:List UInt8).toArray⟩,.string ⟨([77,65,88]:List UInt8).toArray⟩],rfl,rfl,⟨[.string ⟨([65,78,68]:List UInt8).toArray⟩],[.string ⟨([79,82]:List UInt8).toArray⟩,.string ⟨([78,79,84]:List UInt8).toArray⟩,.string ⟨([73,83]:List UInt8).toArray⟩,.string ⟨([78,85,76,76]:List UInt8).toArray⟩,.string ⟨([84,82,85,69]:List UInt8).toArray⟩,.string ⟨([70,65,76,83,69]:List UInt8).toArray⟩,.string ⟨([67,79,85,78,84]:List UInt8).toArray⟩,.string ⟨([83,85,77]:List UInt8).toArray⟩,.string ⟨([77,73,78]:List UInt8).toArray⟩,.string ⟨([77,65,88]:List UInt8).toArray⟩],rfl,rfl,⟨[.string ⟨([79,82]:List UInt8).toArray⟩],[.string ⟨([78,79,84]:List UInt8).toArray⟩,.string ⟨([73,83]:List UInt8).toArray⟩,.string ⟨([78,85,76,76]:List UInt8).toArray⟩,.string ⟨([84,82,85,69]:List UInt8).toArray⟩,.string ⟨([70,65,76,83,69]:List UInt8).toArray⟩,.string ⟨([67,79,85,78,84]:List UInt8).toArray⟩,.string ⟨([83,85,77]:List UInt8).toArray⟩,.string ⟨([77,73,78]:List UInt8).toArray⟩,.string ⟨([77,65,88]:List UInt8).toArray⟩],rfl,rfl,⟨[.string ⟨([78,79,84]:List UInt8).toArray⟩],[.string ⟨([73,83]:List UInt8).toArray⟩,.string ⟨([78,85,76,76]:List UInt8).toArray⟩,.string ⟨([84,82,85,69]:List UInt8).toArray⟩,.string ⟨([70,65,76,83,69]:List UInt8).toArray⟩,.string ⟨([67,79,85,78,84]:List UInt8).toArray⟩,.string ⟨([83,85,77]:List UInt8).toArray⟩,.string ⟨([77,73,78]:List UInt8).toArray⟩,.string ⟨([77,65,88]:List UInt8).toArray⟩],rfl,rfl,⟨[.string ⟨([73,83]:List UInt8).toArray⟩],[.string ⟨([78,85,76,76]:List UInt8).toArray⟩,.string ⟨([84,82,85,69]:List UInt8).toArray⟩,.string ⟨([70,65,76,83,69]:List UInt8).toArray⟩,.string ⟨([67,79,85,78,84]:List UInt8).toArray⟩,.string ⟨([83,85,77]:List UInt8).toArray⟩,.string ⟨([77,73,78]:List UInt8).toArray⟩,.string ⟨([77,65,88]:List UInt8).toArray⟩],rfl,rfl,⟨[.string ⟨([78,85,76,76]:List UInt8).toArray⟩],[.string ⟨([84,82,85,69]:List UInt8).toArray⟩,.string ⟨([70,65,76,83,69]:List UInt8).toArray⟩,.string ⟨([67,79,85,78,84]:List UInt8).toArray⟩,.string ⟨([83,85,77]:List UInt8).toArray⟩,.string ⟨([77,73,78]:List UInt8).toArray⟩,.string ⟨([77,65,88]:List UInt8).toArray⟩],rfl,rfl,⟨[.string ⟨([84,82,85,69]:List UInt8).toArray⟩],[.string ⟨([70,65,76,83,69]:List UInt8).toArray⟩,.string ⟨([67,79,85,78,84]:List UInt8).toArray⟩,.string ⟨([83,85,77]:List UInt8).toArray⟩,.string ⟨([77,73,78]:List UInt8).toArray⟩,.string ⟨([77,65,88]:List UInt8).toArray⟩],rfl,rfl,⟨[.string ⟨([70,65,76,83,69]:List UInt8).toArray⟩],[.string ⟨([67,79,85,78,84]:List UInt8).toArray⟩,.string ⟨([83,85,77]:List UInt8).toArray⟩,.string ⟨([77,73,78]:List UInt8).toArray⟩,.string ⟨([77,65,88]:List UInt8).toArray⟩],rfl,rfl,⟨[.string ⟨([67,79,85,78,84]:List UInt8).toArray⟩],[.string ⟨([83,85,77]:List UInt8).toArray⟩,.string ⟨([77,73,78]:List UInt8).toArray⟩,.string ⟨([77,65,88]:List UInt8).toArray⟩],rfl,rfl,⟨[.string ⟨([83,85,77]:List UInt8).toArray⟩],[.string ⟨([77,73,78]:List UInt8).toArray⟩,.string ⟨([77,65,88]:List UInt8).toArray⟩],rfl,rfl,⟨[.string ⟨([77,73,78]:List UInt8).toArray⟩],[.string ⟨([77,65,88]:List UInt8).toArray⟩],rfl,rfl,⟨[.string ⟨([77,65,88]:List UInt8).toArray⟩],[],rfl,rfl,(rfl:_=[])⟩⟩⟩⟩⟩⟩⟩⟩⟩⟩⟩⟩⟩⟩⟩⟩⟩⟩⟩⟩⟩⟩⟩⟩⟩⟩⟩⟩⟩
