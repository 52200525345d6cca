import Derived.Test.YtaehdhmbgmbgiaaGreatDoorKkV3
import Derived.Test.YtaehdhmbgmbgiaaGreatDoorKkV4
set_option linter.all false
namespace Go.Proofs.YtaehdhmbgmbgiaaGreatDoor
open Go
structure ac where
 Kind:Int
 N:Int
 U:Int
 S:Fy
 deriving DecidableEq,Inhabited
def ah:Rp ac:=sr (dD (rI .i64) (dD (rI .i64) (dD (rI .u64) rS))) (fun x=>(x.Kind,x.N,x.U,x.S))
def eg:ro ah 0 (rI .i64) (fun x=>x.Kind):=(iP ek)
def sd:k7 ah 0 (rI .i64) (fun x y=>{x with Kind:=y}):=dI gB (fun _ _=>rfl)
def jX:ro ah 1 (rI .i64) (fun x=>x.N):=(iP (bC ek rfl))
def ul:k7 ah 1 (rI .i64) (fun x y=>{x with N:=y}):=dI (bp gB rfl) (fun _ _=>rfl)
def wv:ro ah 2 (rI .u64) (fun x=>x.U):=(iP (bC (bC ek rfl) rfl))
def Fc:k7 ah 2 (rI .u64) (fun x y=>{x with U:=y}):=dI (bp (bp gB rfl) rfl) (fun _ _=>rfl)
def pj:ro ah 3 rS (fun x=>x.S):=(bC (bC (bC ek rfl) rfl) rfl)
def Fb:k7 ah 3 rS (fun x y=>{x with S:=y}):=dI (bp (bp (bp af rfl) rfl) rfl) (fun _ _=>rfl)
def bK: ∀S,ah.rc S [.int .i64 0,.int .i64 0,.int .u64 0,.string ⟨#[]⟩] ((⟨(0:Int),(0:Int),(0:Int),[]⟩:ac)):=fun _=>⟨[.int .i64 0],[.int .i64 0,.int .u64 0,.string ⟨#[]⟩],rfl,rfl,⟨[.int .i64 0],[.int .u64 0,.string ⟨#[]⟩],rfl,rfl,⟨[.int .u64 0],[.string ⟨#[]⟩],rfl,rfl,rfl⟩⟩⟩
structure av where
 Tag:Int
 L:Int
 R:Int
 X':Int
 Value:ac
 deriving DecidableEq,Inhabited
def aJ:Rp av:=sr (dD (rI .i64) (dD (rI .i64) (dD (rI .i64) (dD (rI .i64) ah)))) (fun x=>(x.Tag,x.L,x.R,x.X',x.Value))
def fy:ro aJ 0 (rI .i64) (fun x=>x.Tag):=(iP ek)
def si:k7 aJ 0 (rI .i64) (fun x y=>{x with Tag:=y}):=dI gB (fun _ _=>rfl)
def qD:ro aJ 1 (rI .i64) (fun x=>x.L):=(iP (bC ek rfl))
def wm:k7 aJ 1 (rI .i64) (fun x y=>{x with L:=y}):=dI (bp gB rfl) (fun _ _=>rfl)
def qC:ro aJ 2 (rI .i64) (fun x=>x.R):=(iP (bC (bC ek rfl) rfl))
def wl:k7 aJ 2 (rI .i64) (fun x y=>{x with R:=y}):=dI (bp (bp gB rfl) rfl) (fun _ _=>rfl)
def lD:ro aJ 3 (rI .i64) (fun x=>x.X'):=(iP (bC (bC (bC ek rfl) rfl) rfl))
def Ff:k7 aJ 3 (rI .i64) (fun x y=>{x with X':=y}):=dI (bp (bp (bp gB rfl) rfl) rfl) (fun _ _=>rfl)
def pn:ro aJ 4 ah (fun x=>x.Value):=(bC (bC (bC (bC ek rfl) rfl) rfl) rfl)
def Lb:k7 aJ 4 ah (fun x y=>{x with Value:=y}):=dI (bp (bp (bp (bp af rfl) rfl) rfl) rfl) (fun _ _=>rfl)
def mg: ∀S,aJ.rc S [.int .i64 0,.int .i64 0,.int .i64 0,.int .i64 0,.int .i64 0,.int .i64 0,.int .u64 0,.string ⟨#[]⟩] ((⟨(0:Int),(0:Int),(0:Int),(0:Int),(⟨(0:Int),(0:Int),(0:Int),[]⟩:ac)⟩:av)):=fun _=>⟨[.int .i64 0],[.int .i64 0,.int .i64 0,.int .i64 0,.int .i64 0,.int .i64 0,.int .u64 0,.string ⟨#[]⟩],rfl,rfl,⟨[.int .i64 0],[.int .i64 0,.int .i64 0,.int .i64 0,.int .i64 0,.int .u64 0,.string ⟨#[]⟩],rfl,rfl,⟨[.int .i64 0],[.int .i64 0,.int .i64 0,.int .i64 0,.int .u64 0,.string ⟨#[]⟩],rfl,rfl,⟨[.int .i64 0],[.int .i64 0,.int .i64 0,.int .u64 0,.string ⟨#[]⟩],rfl,rfl,bK _⟩⟩⟩⟩
structure au where
 j':(List av)
 deriving DecidableEq,Inhabited
def ap:Rp au:=sr (gM aJ) (fun x=>(x.j'))
def dV:ro ap 0 (gM aJ) (fun x=>x.j'):=ek
def yl:k7 ap 0 (gM aJ) (fun x y=>{x with j':=y}):=dI af (fun _ _=>rfl)
def dQ: ∀S,ap.rc S [.slice none 0 0] ((⟨[]⟩:au)):=fun _=>⟨none,0,rfl,kG _,nh _,.inl rfl⟩
structure jx where
 Tag:Int
 Arg:au
 deriving DecidableEq,Inhabited
def eI:Rp jx:=sr (dD (rI .i64) ap) (fun x=>(x.Tag,x.Arg))
def vH:ro eI 0 (rI .i64) (fun x=>x.Tag):=(iP ek)
def xb:ro eI 1 ap (fun x=>x.Arg):=(bC ek rfl)
def RL:k7 eI 1 ap (fun x y=>{x with Arg:=y}):=dI (bp af rfl) (fun _ _=>rfl)
def Kv: ∀S,eI.rc S [.int .i64 0,.slice none 0 0] ((⟨(0:Int),(⟨[]⟩:au)⟩:jx)):=fun _=>⟨[.int .i64 0],[.slice none 0 0],rfl,rfl,dQ _⟩
structure kU where
 X':Int
 Q_:Bool
 deriving DecidableEq,Inhabited
def fM:Rp kU:=sr (dD (rI .i64) rB) (fun x=>(x.X',x.Q_))
def C1:ro fM 0 (rI .i64) (fun x=>x.X'):=(iP ek)
def SX:ro fM 1 rB (fun x=>x.Q_):=(bC ek rfl)
def af0: ∀S,fM.rc S [.int .i64 0,.bool false] ((⟨(0:Int),false⟩:kU)):=fun _=>⟨[.int .i64 0],[.bool false],rfl,rfl,rfl⟩
structure ai where
 Op:Int
 A:Int
 B:Int
 Table:Int
 P':(List Int)
 Left:Bool
 J':au
 Q':(List Int)
 M':(List jx)
 I':(List au)
 R':(List kU)
 U':Int
 deriving DecidableEq,Inhabited
def aq:Rp ai:=sr (dD (rI .i64) (dD (rI .i64) (dD (rI .i64) (dD (rI .i64) (dD (gM (rI .i64)) (dD rB (dD ap (dD (gM (rI .i64)) (dD (gM eI) (dD (gM ap) (dD (gM fM) (rI .i64)))))))))))) (fun x=>(x.Op,x.A,x.B,x.Table,x.P',x.Left,x.J',x.Q',x.M',x.I',x.R',x.U'))
def iD:ro aq 0 (rI .i64) (fun x=>x.Op):=(iP ek)
def sf:k7 aq 0 (rI .i64) (fun x y=>{x with Op:=y}):=dI gB (fun _ _=>rfl)
def eE:ro aq 1 (rI .i64) (fun x=>x.A):=(iP (bC ek rfl))
def uo:k7 aq 1 (rI .i64) (fun x y=>{x with A:=y}):=dI (bp gB rfl) (fun _ _=>rfl)
def lC:ro aq 2 (rI .i64) (fun x=>x.B):=(iP (bC (bC ek rfl) rfl))
def um:k7 aq 2 (rI .i64) (fun x y=>{x with B:=y}):=dI (bp (bp gB rfl) rfl) (fun _ _=>rfl)
def sF:ro aq 3 (rI .i64) (fun x=>x.Table):=(iP (bC (bC (bC ek rfl) rfl) rfl))
def La:k7 aq 3 (rI .i64) (fun x y=>{x with Table:=y}):=dI (bp (bp (bp gB rfl) rfl) rfl) (fun _ _=>rfl)
def pm:ro aq 4 (gM (rI .i64)) (fun x=>x.P'):=(iP (bC (bC (bC (bC ek rfl) rfl) rfl) rfl))
def yM:k7 aq 4 (gM (rI .i64)) (fun x y=>{x with P':=y}):=dI (bp (bp (bp (bp gB rfl) rfl) rfl) rfl) (fun _ _=>rfl)
def ww:ro aq 5 rB (fun x=>x.Left):=(iP (bC (bC (bC (bC (bC ek rfl) rfl) rfl) rfl) rfl))
def K0:k7 aq 5 rB (fun x y=>{x with Left:=y}):=dI (bp (bp (bp (bp (bp gB rfl) rfl) rfl) rfl) rfl) (fun _ _=>rfl)
def i7:ro aq 6 ap (fun x=>x.J'):=(iP (bC (bC (bC (bC (bC (bC ek rfl) rfl) rfl) rfl) rfl) rfl))
def se:k7 aq 6 ap (fun x y=>{x with J':=y}):=dI (bp (bp (bp (bp (bp (bp gB rfl) rfl) rfl) rfl) rfl) rfl) (fun _ _=>rfl)
def nv:ro aq 7 (gM (rI .i64)) (fun x=>x.Q'):=(iP (bC (bC (bC (bC (bC (bC (bC ek rfl) rfl) rfl) rfl) rfl) rfl) rfl))
def Fe:k7 aq 7 (gM (rI .i64)) (fun x y=>{x with Q':=y}):=dI (bp (bp (bp (bp (bp (bp (bp gB rfl) rfl) rfl) rfl) rfl) rfl) rfl) (fun _ _=>rfl)
def qz:ro aq 8 (gM eI) (fun x=>x.M'):=(iP (bC (bC (bC (bC (bC (bC (bC (bC ek rfl) rfl) rfl) rfl) rfl) rfl) rfl) rfl))
def Uf:k7 aq 8 (gM eI) (fun x y=>{x with M':=y}):=dI (bp (bp (bp (bp (bp (bp (bp (bp gB rfl) rfl) rfl) rfl) rfl) rfl) rfl) rfl) (fun _ _=>rfl)
def kD:ro aq 9 (gM ap) (fun x=>x.I'):=(iP (bC (bC (bC (bC (bC (bC (bC (bC (bC ek rfl) rfl) rfl) rfl) rfl) rfl) rfl) rfl) rfl))
def KZ:k7 aq 9 (gM ap) (fun x y=>{x with I':=y}):=dI (bp (bp (bp (bp (bp (bp (bp (bp (bp gB rfl) rfl) rfl) rfl) rfl) rfl) rfl) rfl) rfl) (fun _ _=>rfl)
def oh:ro aq 10 (gM fM) (fun x=>x.R'):=(iP (bC (bC (bC (bC (bC (bC (bC (bC (bC (bC ek rfl) rfl) rfl) rfl) rfl) rfl) rfl) rfl) rfl) rfl))
def IG:k7 aq 10 (gM fM) (fun x y=>{x with R':=y}):=dI (bp (bp (bp (bp (bp (bp (bp (bp (bp (bp gB rfl) rfl) rfl) rfl) rfl) rfl) rfl) rfl) rfl) rfl) (fun _ _=>rfl)
def uQ:ro aq 11 (rI .i64) (fun x=>x.U'):=(bC (bC (bC (bC (bC (bC (bC (bC (bC (bC (bC ek rfl) rfl) rfl) rfl) rfl) rfl) rfl) rfl) rfl) rfl) rfl)
def RJ:k7 aq 11 (rI .i64) (fun x y=>{x with U':=y}):=dI (bp (bp (bp (bp (bp (bp (bp (bp (bp (bp (bp af rfl) rfl) rfl) rfl) rfl) rfl) rfl) rfl) rfl) rfl) rfl) (fun _ _=>rfl)
def lk: ∀S,aq.rc S [.int .i64 0,.int .i64 0,.int .i64 0,.int .i64 0,.slice none 0 0,.bool false,.slice none 0 0,.slice none 0 0,.slice none 0 0,.slice none 0 0,.slice none 0 0,.int .i64 0] ((⟨(0:Int),(0:Int),(0:Int),(0:Int),[],false,(⟨[]⟩:au),[],[],[],[],(0:Int)⟩:ai)):=fun _=>⟨[.int .i64 0],[.int .i64 0,.int .i64 0,.int .i64 0,.slice none 0 0,.bool false,.slice none 0 0,.slice none 0 0,.slice none 0 0,.slice none 0 0,.slice none 0 0,.int .i64 0],rfl,rfl,⟨[.int .i64 0],[.int .i64 0,.int .i64 0,.slice none 0 0,.bool false,.slice none 0 0,.slice none 0 0,.slice none 0 0,.slice none 0 0,.slice none 0 0,.int .i64 0],rfl,rfl,⟨[.int .i64 0],[.int .i64 0,.slice none 0 0,.bool false,.slice none 0 0,.slice none 0 0,.slice none 0 0,.slice none 0 0,.slice none 0 0,.int .i64 0],rfl,rfl,⟨[.int .i64 0],[.slice none 0 0,.bool false,.slice none 0 0,.slice none 0 0,.slice none 0 0,.slice none 0 0,.slice none 0 0,.int .i64 0],rfl,rfl,⟨[.slice none 0 0],[.bool false,.slice none 0 0,.slice none 0 0,.slice none 0 0,.slice none 0 0,.slice none 0 0,.int .i64 0],rfl,⟨none,0,rfl,kG _,nh _,.inl rfl⟩,⟨[.bool false],[.slice none 0 0,.slice none 0 0,.slice none 0 0,.slice none 0 0,.slice none 0 0,.int .i64 0],rfl,rfl,⟨[.slice none 0 0],[.slice none 0 0,.slice none 0 0,.slice none 0 0,.slice none 0 0,.int .i64 0],rfl,dQ _,⟨[.slice none 0 0],[.slice none 0 0,.slice none 0 0,.slice none 0 0,.int .i64 0],rfl,⟨none,0,rfl,kG _,nh _,.inl rfl⟩,⟨[.slice none 0 0],[.slice none 0 0,.slice none 0 0,.int .i64 0],rfl,⟨none,0,rfl,kG _,nh _,.inl rfl⟩,⟨[.slice none 0 0],[.slice none 0 0,.int .i64 0],rfl,⟨none,0,rfl,kG _,nh _,.inl rfl⟩,⟨[.slice none 0 0],[.int .i64 0],rfl,⟨none,0,rfl,kG _,nh _,.inl rfl⟩,rfl⟩⟩⟩⟩⟩⟩⟩⟩⟩⟩⟩
structure aZ where
 j':(List ai)
 deriving DecidableEq,Inhabited
def aX:Rp aZ:=sr (gM aq) (fun x=>(x.j'))
def fx:ro aX 0 (gM aq) (fun x=>x.j'):=ek
def Ue:k7 aX 0 (gM aq) (fun x y=>{x with j':=y}):=dI af (fun _ _=>rfl)
def fU: ∀S,aX.rc S [.slice none 0 0] ((⟨[]⟩:aZ)):=fun _=>⟨none,0,rfl,kG _,nh _,.inl rfl⟩
structure aB where
 D':aZ
 root:ai
 parts:(List aB)
 deriving Inhabited
def VS:RM 14 (fun r:Rp aB=>sr (dD aX (dD aq (gM r))) (fun x:aB=>(x.D',x.root,x.parts))):=RM.map _ (Xw (RM.const aX) (Xw (RM.const aq) RM.sl))
def aN:Rp aB:=ZE VS rfl
def Bi:Rp aB:=sr (dD aX (dD aq (gM aN))) (fun x=>(x.D',x.root,x.parts))
def zI: ∀S cs x,aN.rc S cs x↔Bi.rc S cs x:=ZD VS rfl
def yx:ro aN 0 aX (fun x=>x.D'):=Qm zI (r' :=Bi) (iP ek)
def X3:k7 aN 0 aX (fun x y=>{x with D':=y}):=KX zI (r' :=Bi) (dI gB (fun _ _=>rfl))
def gR:ro aN 1 aq (fun x=>x.root):=Qm zI (r' :=Bi) (iP (bC ek rfl))
def X2:k7 aN 1 aq (fun x y=>{x with root:=y}):=KX zI (r' :=Bi) (dI (bp gB rfl) (fun _ _=>rfl))
def lL:ro aN 13 (gM aN) (fun x=>x.parts):=Qm zI (r' :=Bi) (bC (bC ek rfl) rfl)
def X1:k7 aN 13 (gM aN) (fun x y=>{x with parts:=y}):=KX zI (r' :=Bi) (dI (bp (bp af rfl) rfl) (fun _ _=>rfl))
def iN: ∀S,aN.rc S [.slice none 0 0,.int .i64 0,.int .i64 0,.int .i64 0,.int .i64 0,.slice none 0 0,.bool false,.slice none 0 0,.slice none 0 0,.slice none 0 0,.slice none 0 0,.slice none 0 0,.int .i64 0,.slice none 0 0] ((⟨(⟨[]⟩:aZ),(⟨(0:Int),(0:Int),(0:Int),(0:Int),[],false,(⟨[]⟩:au),[],[],[],[],(0:Int)⟩:ai),[]⟩:aB)):=fun _=>(zI _ _ _).2 (⟨[.slice none 0 0],[.int .i64 0,.int .i64 0,.int .i64 0,.int .i64 0,.slice none 0 0,.bool false,.slice none 0 0,.slice none 0 0,.slice none 0 0,.slice none 0 0,.slice none 0 0,.int .i64 0,.slice none 0 0],rfl,fU _,⟨[.int .i64 0,.int .i64 0,.int .i64 0,.int .i64 0,.slice none 0 0,.bool false,.slice none 0 0,.slice none 0 0,.slice none 0 0,.slice none 0 0,.slice none 0 0,.int .i64 0],[.slice none 0 0],rfl,lk _,⟨none,0,rfl,kG _,nh _,.inl rfl⟩⟩⟩)
structure aV where
 D':aZ
 v':(List (List Int))
 first:(List Int)
 deriving DecidableEq,Inhabited
def cd:Rp aV:=sr (dD aX (dD (gM (gM (rI .i64))) (gM (rI .i64)))) (fun x=>(x.D',x.v',x.first))
def Bz:ro cd 0 aX (fun x=>x.D'):=(iP ek)
def PG:k7 cd 0 aX (fun x y=>{x with D':=y}):=dI gB (fun _ _=>rfl)
def Qp:ro cd 1 (gM (gM (rI .i64))) (fun x=>x.v'):=(iP (bC ek rfl))
def PF:k7 cd 1 (gM (gM (rI .i64))) (fun x y=>{x with v':=y}):=dI (bp gB rfl) (fun _ _=>rfl)
def GM:ro cd 2 (gM (rI .i64)) (fun x=>x.first):=(bC (bC ek rfl) rfl)
def PE:k7 cd 2 (gM (rI .i64)) (fun x y=>{x with first:=y}):=dI (bp (bp af rfl) rfl) (fun _ _=>rfl)
def TT: ∀S,cd.rc S [.slice none 0 0,.slice none 0 0,.slice none 0 0] ((⟨(⟨[]⟩:aZ),[],[]⟩:aV)):=fun _=>⟨[.slice none 0 0],[.slice none 0 0,.slice none 0 0],rfl,fU _,⟨[.slice none 0 0],[.slice none 0 0],rfl,⟨none,0,rfl,kG _,nh _,.inl rfl⟩,⟨none,0,rfl,kG _,nh _,.inl rfl⟩⟩⟩
structure da where
 Tables:(List (List (List ac)))
 deriving DecidableEq,Inhabited
def ko:Rp da:=sr (gM (gM (gM ah))) (fun x=>(x.Tables))
def DF:ro ko 0 (gM (gM (gM ah))) (fun x=>x.Tables):=ek
def JL: ∀S,ko.rc S [.slice none 0 0] ((⟨[]⟩:da)):=fun _=>⟨none,0,rfl,kG _,nh _,.inl rfl⟩
structure fO where
 Base:da
 rows:(List (List (List ac)))
 width:(List Int)
 deriving DecidableEq,Inhabited
def iY:Rp fO:=sr (dD ko (dD (gM (gM (gM ah))) (gM (rI .i64)))) (fun x=>(x.Base,x.rows,x.width))
def aaw:ro iY 0 ko (fun x=>x.Base):=(iP ek)
def Zx:k7 iY 0 ko (fun x y=>{x with Base:=y}):=dI gB (fun _ _=>rfl)
def Zw:k7 iY 1 (gM (gM (gM ah))) (fun x y=>{x with rows:=y}):=dI (bp gB rfl) (fun _ _=>rfl)
def Zv:k7 iY 2 (gM (rI .i64)) (fun x y=>{x with width:=y}):=dI (bp (bp af rfl) rfl) (fun _ _=>rfl)
def afZ: ∀S,iY.rc S [.slice none 0 0,.slice none 0 0,.slice none 0 0] ((⟨(⟨[]⟩:da),[],[]⟩:fO)):=fun _=>⟨[.slice none 0 0],[.slice none 0 0,.slice none 0 0],rfl,JL _,⟨[.slice none 0 0],[.slice none 0 0],rfl,⟨none,0,rfl,kG _,nh _,.inl rfl⟩,⟨none,0,rfl,kG _,nh _,.inl rfl⟩⟩⟩
structure k6 where
 Key:(List ac)
 Rows:(List (List ac))
 deriving DecidableEq,Inhabited
def jO:Rp k6:=sr (dD (gM ah) (gM (gM ah))) (fun x=>(x.Key,x.Rows))
def UT:ro jO 0 (gM ah) (fun x=>x.Key):=(iP ek)
def Uh:k7 jO 0 (gM ah) (fun x y=>{x with Key:=y}):=dI gB (fun _ _=>rfl)
def US:ro jO 1 (gM (gM ah)) (fun x=>x.Rows):=(bC ek rfl)
def Ug:k7 jO 1 (gM (gM ah)) (fun x y=>{x with Rows:=y}):=dI (bp af rfl) (fun _ _=>rfl)
def Ku: ∀S,jO.rc S [.slice none 0 0,.slice none 0 0] ((⟨[],[]⟩:k6)):=fun _=>⟨[.slice none 0 0],[.slice none 0 0],rfl,⟨none,0,rfl,kG _,nh _,.inl rfl⟩,⟨none,0,rfl,kG _,nh _,.inl rfl⟩⟩
structure TA where
 j':Value
def f9:Rp TA:=sr rV (fun x=>(x.j'))
def o8:ro f9 0 rV (fun x=>x.j'):=ek
def PD:k7 f9 0 rV (fun x y=>{x with j':=y}):=dI af (fun _ _=>rfl)
def ic(y:aZ)(v0:Value):TA:=⟨v0⟩
def Bb: ∀S,f9.rc S [.slice none 0 0] (ic ((⟨[]⟩:aZ)) (aY none 0 0)):=fun _=>⟨rfl,rfl⟩
structure XA where
 Tables:Value
def s5:Rp XA:=sr rV (fun x=>(x.Tables))
def SW:ro s5 0 rV (fun x=>x.Tables):=ek
def uN(y:da)(v0:Value):XA:=⟨v0⟩
def XM: ∀S,s5.rc S [.slice none 0 0] (uN ((⟨[]⟩:da)) (aY none 0 0)):=fun _=>⟨rfl,rfl⟩
structure Xz where
 j':Value
def fQ:Rp Xz:=sr rV (fun x=>(x.j'))
def m8:ro fQ 0 rV (fun x=>x.j'):=ek
def CB:k7 fQ 0 rV (fun x y=>{x with j':=y}):=dI af (fun _ _=>rfl)
def gQ(y:au)(v0:Value):Xz:=⟨v0⟩
def wg: ∀S,fQ.rc S [.slice none 0 0] (gQ ((⟨[]⟩:au)) (aY none 0 0)):=fun _=>⟨rfl,rfl⟩
structure TC where
 Op:Int
 A:Int
 B:Int
 Table:Int
 P':(List Int)
 Left:Bool
 J':au
 Q':(List Int)
 M':Value
 I':(List au)
 R':(List kU)
 U':Int
def Lk:Rp TC:=sr (dD (rI .i64) (dD (rI .i64) (dD (rI .i64) (dD (rI .i64) (dD (gM (rI .i64)) (dD rB (dD ap (dD (gM (rI .i64)) (dD rV (dD (gM ap) (dD (gM fM) (rI .i64)))))))))))) (fun x=>(x.Op,x.A,x.B,x.Table,x.P',x.Left,x.J',x.Q',x.M',x.I',x.R',x.U'))
def LN(y:ai)(v8:Value):TC:=⟨y.Op,y.A,y.B,y.Table,y.P',y.Left,y.J',y.Q',v8,y.I',y.R',y.U'⟩
structure MM where
 Op:Int
 A:Int
 B:Int
 Table:Int
 P':(List Int)
 Left:Bool
 J':au
 Q':(List Int)
 M':Value
 I':Value
 R':(List kU)
 U':Int
def fN:Rp MM:=sr (dD (rI .i64) (dD (rI .i64) (dD (rI .i64) (dD (rI .i64) (dD (gM (rI .i64)) (dD rB (dD ap (dD (gM (rI .i64)) (dD rV (dD rV (dD (gM fM) (rI .i64)))))))))))) (fun x=>(x.Op,x.A,x.B,x.Table,x.P',x.Left,x.J',x.Q',x.M',x.I',x.R',x.U'))
def Me:ro fN 6 ap (fun x=>x.J'):=(iP (bC (bC (bC (bC (bC (bC ek rfl) rfl) rfl) rfl) rfl) rfl))
def KY:k7 fN 6 ap (fun x y=>{x with J':=y}):=dI (bp (bp (bp (bp (bp (bp gB rfl) rfl) rfl) rfl) rfl) rfl) (fun _ _=>rfl)
def sE:ro fN 8 rV (fun x=>x.M'):=(iP (bC (bC (bC (bC (bC (bC (bC (bC ek rfl) rfl) rfl) rfl) rfl) rfl) rfl) rfl))
def sD:ro fN 9 rV (fun x=>x.I'):=(iP (bC (bC (bC (bC (bC (bC (bC (bC (bC ek rfl) rfl) rfl) rfl) rfl) rfl) rfl) rfl) rfl))
def Jt:k7 fN 10 (gM fM) (fun x y=>{x with R':=y}):=dI (bp (bp (bp (bp (bp (bp (bp (bp (bp (bp gB rfl) rfl) rfl) rfl) rfl) rfl) rfl) rfl) rfl) rfl) (fun _ _=>rfl)
def jH(y:ai)(v8:Value)(v9:Value):MM:=⟨y.Op,y.A,y.B,y.Table,y.P',y.Left,y.J',y.Q',v8,v9,y.R',y.U'⟩
def Pq: ∀S,fN.rc S [.int .i64 0,.int .i64 0,.int .i64 0,.int .i64 0,.slice none 0 0,.bool false,.slice none 0 0,.slice none 0 0,.slice none 0 0,.slice none 0 0,.slice none 0 0,.int .i64 0] (jH ((⟨(0:Int),(0:Int),(0:Int),(0:Int),[],false,(⟨[]⟩:au),[],[],[],[],(0:Int)⟩:ai)) (aY none 0 0) (aY none 0 0)):=fun _=>⟨[.int .i64 0],[.int .i64 0,.int .i64 0,.int .i64 0,.slice none 0 0,.bool false,.slice none 0 0,.slice none 0 0,.slice none 0 0,.slice none 0 0,.slice none 0 0,.int .i64 0],rfl,rfl,⟨[.int .i64 0],[.int .i64 0,.int .i64 0,.slice none 0 0,.bool false,.slice none 0 0,.slice none 0 0,.slice none 0 0,.slice none 0 0,.slice none 0 0,.int .i64 0],rfl,rfl,⟨[.int .i64 0],[.int .i64 0,.slice none 0 0,.bool false,.slice none 0 0,.slice none 0 0,.slice none 0 0,.slice none 0 0,.slice none 0 0,.int .i64 0],rfl,rfl,⟨[.int .i64 0],[.slice none 0 0,.bool false,.slice none 0 0,.slice none 0 0,.slice none 0 0,.slice none 0 0,.slice none 0 0,.int .i64 0],rfl,rfl,⟨[.slice none 0 0],[.bool false,.slice none 0 0,.slice none 0 0,.slice none 0 0,.slice none 0 0,.slice none 0 0,.int .i64 0],rfl,⟨none,0,rfl,kG _,nh _,.inl rfl⟩,⟨[.bool false],[.slice none 0 0,.slice none 0 0,.slice none 0 0,.slice none 0 0,.slice none 0 0,.int .i64 0],rfl,rfl,⟨[.slice none 0 0],[.slice none 0 0,.slice none 0 0,.slice none 0 0,.slice none 0 0,.int .i64 0],rfl,dQ _,⟨[.slice none 0 0],[.slice none 0 0,.slice none 0 0,.slice none 0 0,.int .i64 0],rfl,⟨none,0,rfl,kG _,nh _,.inl rfl⟩,⟨[.slice none 0 0],[.slice none 0 0,.slice none 0 0,.int .i64 0],rfl,⟨rfl,rfl⟩,⟨[.slice none 0 0],[.slice none 0 0,.int .i64 0],rfl,⟨rfl,rfl⟩,⟨[.slice none 0 0],[.int .i64 0],rfl,⟨none,0,rfl,kG _,nh _,.inl rfl⟩,rfl⟩⟩⟩⟩⟩⟩⟩⟩⟩⟩⟩
structure Xy where
 D':aZ
 root:ai
 parts:Value
def pM:Rp Xy:=sr (dD aX (dD aq rV)) (fun x=>(x.D',x.root,x.parts))
def IF:k7 pM 0 aX (fun x y=>{x with D':=y}):=dI gB (fun _ _=>rfl)
def IY:ro pM 1 aq (fun x=>x.root):=(iP (bC ek rfl))
def IE:k7 pM 1 aq (fun x y=>{x with root:=y}):=dI (bp gB rfl) (fun _ _=>rfl)
def SV:ro pM 13 rV (fun x=>x.parts):=(bC (bC ek rfl) rfl)
def uM(y:aB)(v2:Value):Xy:=⟨y.D',y.root,v2⟩
def NY: ∀S,pM.rc S [.slice none 0 0,.int .i64 0,.int .i64 0,.int .i64 0,.int .i64 0,.slice none 0 0,.bool false,.slice none 0 0,.slice none 0 0,.slice none 0 0,.slice none 0 0,.slice none 0 0,.int .i64 0,.slice none 0 0] (uM ((⟨(⟨[]⟩:aZ),(⟨(0:Int),(0:Int),(0:Int),(0:Int),[],false,(⟨[]⟩:au),[],[],[],[],(0:Int)⟩:ai),[]⟩:aB)) (aY none 0 0)):=fun _=>⟨[.slice none 0 0],[.int .i64 0,.int .i64 0,.int .i64 0,.int .i64 0,.slice none 0 0,.bool false,.slice none 0 0,.slice none 0 0,.slice none 0 0,.slice none 0 0,.slice none 0 0,.int .i64 0,.slice none 0 0],rfl,fU _,⟨[.int .i64 0,.int .i64 0,.int .i64 0,.int .i64 0,.slice none 0 0,.bool false,.slice none 0 0,.slice none 0 0,.slice none 0 0,.slice none 0 0,.slice none 0 0,.int .i64 0],[.slice none 0 0],rfl,lk _,⟨rfl,rfl⟩⟩⟩
def ue{S:SH}{cs:List Value}{y:aZ}{v0:Value}{xs0:(List ai)}(k0:(gM aq).rc S [v0] xs0)(h:f9.rc S cs (ic y v0)):aX.rc S cs ((⟨xs0⟩:aZ)):=by
 have h0:=h
 exact(by rw [h0.1];exact k0)
def Mv{S:SH}{cs:List Value}{y:da}{v0:Value}{xs0:(List (List (List ac)))}(k0:(gM (gM (gM ah))).rc S [v0] xs0)(h:s5.rc S cs (uN y v0)):ko.rc S cs ((⟨xs0⟩:da)):=by
 have h0:=h
 exact(by rw [h0.1];exact k0)
def vQ{S:SH}{cs:List Value}{y:au}{v0:Value}{xs0:(List av)}(k0:(gM aJ).rc S [v0] xs0)(h:fQ.rc S cs (gQ y v0)):ap.rc S cs ((⟨xs0⟩:au)):=by
 have h0:=h
 exact(by rw [h0.1];exact k0)
def zQ{S:SH}{cs:List Value}{y:ai}{v8:Value}{v9:Value}{xs8:(List jx)}(k8:(gM eI).rc S [v8] xs8){xs9:(List au)}(k9:(gM ap).rc S [v9] xs9)(h:fN.rc S cs (jH y v8 v9)):aq.rc S cs ((⟨y.Op,y.A,y.B,y.Table,y.P',y.Left,y.J',y.Q',xs8,xs9,y.R',y.U'⟩:ai)):=by
 obtain⟨a0,b0,e0,h0,a1,b1,e1,I,a2,b2,e2,M,a3,b3,e3,h3,a4,b4,e4,h4,a5,b5,e5,h5,a6,b6,e6,h6,a7,b7,e7,h7,a8,b8,e8,h8,a9,b9,e9,h9,a10,b10,e10,h10,h11⟩:=h
 exact⟨a0,b0,e0,h0,a1,b1,e1,I,a2,b2,e2,M,a3,b3,e3,h3,a4,b4,e4,h4,a5,b5,e5,h5,a6,b6,e6,h6,a7,b7,e7,h7,a8,b8,e8,(by rw [h8.1];exact k8),a9,b9,e9,(by rw [h9.1];exact k9),a10,b10,e10,h10,h11⟩
def aa0(t:aB):t=⟨t.D',t.root,t.parts⟩:=by cases t;rfl
def Mu{S:SH}{cs:List Value}{y aa:aB}{v2:Value}{xs2:(List aB)}(k2:(gM aN).rc S [v2] xs2)(h:pM.rc S cs (uM y v2))(hY:aa=(⟨y.D',y.root,xs2⟩:aB):=by first|rfl|exact aa0 _):aN.rc S cs aa:=by
 subst hY
 obtain⟨a0,b0,e0,h0,a1,b1,e1,I,M⟩:=h
 exact(zI _ _ _).2 (⟨a0,b0,e0,h0,a1,b1,e1,I,(by rw [M.1];exact k2)⟩)
def r9(y:aZ)(u:Value)(v:Value):uZ f9 f9 0 rV (ic y u) v (ic y v):=Dm (mu rfl) rfl
def D6(y:da)(u:Value)(v:Value):uZ s5 s5 0 rV (uN y u) v (uN y v):=Dm (mu rfl) rfl
def xG(y:au)(u:Value)(v:Value):uZ fQ fQ 0 rV (gQ y u) v (gQ y v):=Dm (mu rfl) rfl
def yL(y:ai)(v:Value):uZ aq Lk 8 rV (y) v (LN y v):=Dm (nS (nS (nS (nS (nS (nS (nS (nS (VO (mu rfl) rfl) rfl) rfl) rfl) rfl) rfl) rfl) rfl) rfl) rfl
def vp(y:ai)(v8:Value)(v:Value):uZ Lk fN 9 rV (LN y v8) v (jH y v8 v):=Dm (nS (nS (nS (nS (nS (nS (nS (nS (nS (VO (mu rfl) rfl) rfl) rfl) rfl) rfl) rfl) rfl) rfl) rfl) rfl) rfl
def D5(y:aB)(u:Value)(v:Value):uZ pM pM 13 rV (uM y u) v (uM y v):=Dm (nS (nS (mu rfl) rfl) rfl) rfl
def gg(b:Nat)(x:aV)(i:OI):List OE:=[bx (rH cd [(1,aY (i.h 0).1 (i.h 0).2 x.v'.length),(2,aY (i.h 1).1 (i.h 1).2 x.first.length)]) 131 b x,gh (gM (rI .i64)) 44 (i.h 0).1 (i.h 0).2 x.v',gh (rI .i64) 3 (i.h 1).1 (i.h 1).2 x.first]
def nL(b:Nat)(x:fO)(i:OI):List OE:=[bx (rH iY [(1,aY (i.h 0).1 (i.h 0).2 x.rows.length),(2,aY (i.h 1).1 (i.h 1).2 x.width.length)]) 77 b x,gh (gM (gM ah)) 31 (i.h 0).1 (i.h 0).2 x.rows,gh (rI .i64) 3 (i.h 1).1 (i.h 1).2 x.width]
abbrev VQ:Rp (List (List au)):=tE (gM ap) 3
def iR:Rp (List Value):=tE rV 3
def lc(_y:(List (List au)))(v0 v1 v2:Value):List Value:=[v0,v1,v2]
def JE:ro iR 0 rV (fun x=>(x[0]?).getD undef):=Md (by decide)
def JD:ro iR 1 rV (fun x=>(x[1]?).getD undef):=Md (by decide)
def JC:ro iR 2 rV (fun x=>(x[2]?).getD undef):=Md (by decide)
def Ng: ∀S,iR.rc S [.slice none 0 0,.slice none 0 0,.slice none 0 0] (lc (List.replicate 3 []) (aY none 0 0) (aY none 0 0) (aY none 0 0)):=fun _=>⟨rfl,⟨[_],_,rfl,⟨rfl,rfl⟩,⟨[_],_,rfl,⟨rfl,rfl⟩,⟨[_],_,rfl,⟨rfl,rfl⟩,rfl⟩⟩⟩⟩
def Fx{S:SH}{cs:List Value}{y:(List (List au))}{v0:Value}{v1:Value}{v2:Value}{xs0:(List au)}(k0:(gM ap).rc S [v0] xs0){xs1:(List au)}(k1:(gM ap).rc S [v1] xs1){xs2:(List au)}(k2:(gM ap).rc S [v2] xs2)(h:iR.rc S cs (lc y v0 v1 v2)):VQ.rc S cs [xs0,xs1,xs2]:=aij h ⟨k0,k1,k2,trivial⟩
def xQ(y:(List (List au)))(v1:Value)(v2:Value)(u:Value)(v:Value):uZ iR iR 0 rV (lc y u v1 v2) v (lc y v v1 v2):=KW (q:=rV) (n:=3) (i:=0) (by decide)
def xP(y:(List (List au)))(v0:Value)(v2:Value)(u:Value)(v:Value):uZ iR iR 1 rV (lc y v0 u v2) v (lc y v0 v v2):=KW (q:=rV) (n:=3) (i:=1) (by decide)
def xO(y:(List (List au)))(v0:Value)(v1:Value)(u:Value)(v:Value):uZ iR iR 2 rV (lc y v0 v1 u) v (lc y v0 v1 v):=KW (q:=rV) (n:=3) (i:=2) (by decide)
def gv0:(List ac):=[(⟨(1:Int),(0:Int),(0:Int),[]⟩:ac),(⟨(0:Int),(0:Int),(0:Int),[]⟩:ac),(⟨(1:Int),(1:Int),(0:Int),[]⟩:ac)]
def gm0:((0:Nat),([.int .i64 (1),.int .i64 (0),.int .u64 (0),.string ⟨([]:List UInt8).toArray⟩,.int .i64 (0),.int .i64 (0),.int .u64 (0),.string ⟨([]:List UInt8).toArray⟩,.int .i64 (1),.int .i64 (1),.int .u64 (0),.string ⟨([]:List UInt8).toArray⟩]:List Value))∈glob:=by simp [glob]
def gr0: ∀S,(tE ah 3).rc S ([.int .i64 (1),.int .i64 (0),.int .u64 (0),.string ⟨([]:List UInt8).toArray⟩,.int .i64 (0),.int .i64 (0),.int .u64 (0),.string ⟨([]:List UInt8).toArray⟩,.int .i64 (1),.int .i64 (1),.int .u64 (0),.string ⟨([]:List UInt8).toArray⟩]:List Value) gv0:=fun _=>⟨rfl,⟨[.int .i64 (1),.int .i64 (0),.int .u64 (0),.string ⟨([]:List UInt8).toArray⟩],[.int .i64 (0),.int .i64 (0),.int .u64 (0),.string ⟨([]:List UInt8).toArray⟩,.int .i64 (1),.int .i64 (1),.int .u64 (0),.string ⟨([]:List UInt8).toArray⟩],rfl,⟨[.int .i64 (1)],[.int .i64 (0),.int .u64 (0),.string ⟨([]:List UInt8).toArray⟩],rfl,rfl,⟨[.int .i64 (0)],[.int .u64 (0),.string ⟨([]:List UInt8).toArray⟩],rfl,rfl,⟨[.int .u64 (0)],[.string ⟨([]:List UInt8).toArray⟩],rfl,rfl,rfl⟩⟩⟩,⟨[.int .i64 (0),.int .i64 (0),.int .u64 (0),.string ⟨([]:List UInt8).toArray⟩],[.int .i64 (1),.int .i64 (1),.int .u64 (0),.string ⟨([]:List UInt8).toArray⟩],rfl,⟨[.int .i64 (0)],[.int .i64 (0),.int .u64 (0),.string ⟨([]:List UInt8).toArray⟩],rfl,rfl,⟨[.int .i64 (0)],[.int .u64 (0),.string ⟨([]:List UInt8).toArray⟩],rfl,rfl,⟨[.int .u64 (0)],[.string ⟨([]:List UInt8).toArray⟩],rfl,rfl,rfl⟩⟩⟩,⟨[.int .i64 (1),.int .i64 (1),.int .u64 (0),.string ⟨([]:List UInt8).toArray⟩],[],rfl,⟨[.int .i64 (1)],[.int .i64 (1),.int .u64 (0),.string ⟨([]:List UInt8).toArray⟩],rfl,rfl,⟨[.int .i64 (1)],[.int .u64 (0),.string ⟨([]:List UInt8).toArray⟩],rfl,rfl,⟨[.int .u64 (0)],[.string ⟨([]:List UInt8).toArray⟩],rfl,rfl,rfl⟩⟩⟩,(rfl:_=[])⟩⟩⟩⟩
