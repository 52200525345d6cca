/- eJ of this claim: D. -/
import Derived.Test.YtpgjgkdpeagjbaaGreatDoorJaV3
set_option linter.all false
namespace Go.Proofs.YtpgjgkdpeagjbaaGreatDoor
open Go

structure ac where
 Kind:Int
 N:Int
 U:Int
 S:C0
 deriving DecidableEq,Inhabited
def ae:Rp ac:=rW (dP (rI .i64) (dP (rI .i64) (dP (rI .u64) rS))) (fun x=>(x.Kind,x.N,x.U,x.S))
def bC:qZ ae 0 (rI .i64) (fun x=>x.Kind):=(iN eP)
def lu:lh ae 0 (rI .i64) (fun x y=>{x with Kind:=y}):=ek gT (fun _ _=>rfl)
def cE:qZ ae 1 (rI .i64) (fun x=>x.N):=(iN (bI eP rfl))
def nf:lh ae 1 (rI .i64) (fun x y=>{x with N:=y}):=ek (bJ gT rfl) (fun _ _=>rfl)
def jo:qZ ae 2 (rI .u64) (fun x=>x.U):=(iN (bI (bI eP rfl) rfl))
def yU:lh ae 2 (rI .u64) (fun x y=>{x with U:=y}):=ek (bJ (bJ gT rfl) rfl) (fun _ _=>rfl)
def eH:qZ ae 3 rS (fun x=>x.S):=(bI (bI (bI eP rfl) rfl) rfl)
def PU:lh ae 3 rS (fun x y=>{x with S:=y}):=ek (bJ (bJ (bJ ah rfl) rfl) rfl) (fun _ _=>rfl)
def aL: ∀S,ae.rc S [.int .i64 0,.int .i64 0,.int .u64 0,.string ⟨#[]⟩] ((⟨(0:Int),(0:Int),(0:Int),[]⟩:ac)):=fun _=>⟨[.int .i64 0],[.int .i64 0,.int .u64 0,.string ⟨#[]⟩],rfl,rfl,⟨[.int .i64 0],[.int .u64 0,.string ⟨#[]⟩],rfl,rfl,⟨[.int .u64 0],[.string ⟨#[]⟩],rfl,rfl,rfl⟩⟩⟩
structure bZ where
 Tag:Int
 L:Int
 R:Int
 Col:Int
 Value:ac
 deriving DecidableEq,Inhabited
def cx:Rp bZ:=rW (dP (rI .i64) (dP (rI .i64) (dP (rI .i64) (dP (rI .i64) ae)))) (fun x=>(x.Tag,x.L,x.R,x.Col,x.Value))
def fc:qZ cx 0 (rI .i64) (fun x=>x.Tag):=(iN eP)
def Qc:lh cx 0 (rI .i64) (fun x y=>{x with Tag:=y}):=ek gT (fun _ _=>rfl)
def ua:qZ cx 1 (rI .i64) (fun x=>x.L):=(iN (bI eP rfl))
def Qb:lh cx 1 (rI .i64) (fun x y=>{x with L:=y}):=ek (bJ gT rfl) (fun _ _=>rfl)
def qr:qZ cx 2 (rI .i64) (fun x=>x.R):=(iN (bI (bI eP rfl) rfl))
def Qa:lh cx 2 (rI .i64) (fun x y=>{x with R:=y}):=ek (bJ (bJ gT rfl) rfl) (fun _ _=>rfl)
def i6:qZ cx 3 (rI .i64) (fun x=>x.Col):=(iN (bI (bI (bI eP rfl) rfl) rfl))
def PZ:lh cx 3 (rI .i64) (fun x y=>{x with Col:=y}):=ek (bJ (bJ (bJ gT rfl) rfl) rfl) (fun _ _=>rfl)
def mE:qZ cx 4 ae (fun x=>x.Value):=(bI (bI (bI (bI eP rfl) rfl) rfl) rfl)
def qc: ∀S,cx.rc S [.int .i64 0,.int .i64 0,.int .i64 0,.int .i64 0,.int .i64 0,.int .i64 0,.int .u64 0,.string ⟨#[]⟩] ((⟨(0:Int),(0:Int),(0:Int),(0:Int),(⟨(0:Int),(0:Int),(0:Int),[]⟩:ac)⟩:bZ)):=fun _=>⟨[.int .i64 0],[.int .i64 0,.int .i64 0,.int .i64 0,.int .i64 0,.int .i64 0,.int .u64 0,.string ⟨#[]⟩],rfl,rfl,⟨[.int .i64 0],[.int .i64 0,.int .i64 0,.int .i64 0,.int .i64 0,.int .u64 0,.string ⟨#[]⟩],rfl,rfl,⟨[.int .i64 0],[.int .i64 0,.int .i64 0,.int .i64 0,.int .u64 0,.string ⟨#[]⟩],rfl,rfl,⟨[.int .i64 0],[.int .i64 0,.int .i64 0,.int .u64 0,.string ⟨#[]⟩],rfl,rfl,aL _⟩⟩⟩⟩
structure cy where
 Nodes:(List bZ)
 deriving DecidableEq,Inhabited
def cm:Rp cy:=rW (f9 cx) (fun x=>(x.Nodes))
def gj:qZ cm 0 (f9 cx) (fun x=>x.Nodes):=eP
def Bd:lh cm 0 (f9 cx) (fun x y=>{x with Nodes:=y}):=ek ah (fun _ _=>rfl)
def vm: ∀S,cm.rc S [.slice none 0 0] ((⟨[]⟩:cy)):=fun _=>⟨none,0,rfl,fa _,lG _,.inl rfl⟩
structure jt where
 Tag:Int
 Arg:cy
 deriving DecidableEq,Inhabited
def eM:Rp jt:=rW (dP (rI .i64) cm) (fun x=>(x.Tag,x.Arg))
def kz:qZ eM 0 (rI .i64) (fun x=>x.Tag):=(iN eP)
def NN:lh eM 0 (rI .i64) (fun x y=>{x with Tag:=y}):=ek gT (fun _ _=>rfl)
def ro:qZ eM 1 cm (fun x=>x.Arg):=(bI eP rfl)
def NM:lh eM 1 cm (fun x y=>{x with Arg:=y}):=ek (bJ ah rfl) (fun _ _=>rfl)
def GY: ∀S,eM.rc S [.int .i64 0,.slice none 0 0] ((⟨(0:Int),(⟨[]⟩:cy)⟩:jt)):=fun _=>⟨[.int .i64 0],[.slice none 0 0],rfl,rfl,vm _⟩
structure jG where
 Col:Int
 Desc:Bool
 deriving DecidableEq,Inhabited
def gU:Rp jG:=rW (dP (rI .i64) rB) (fun x=>(x.Col,x.Desc))
def uS:qZ gU 0 (rI .i64) (fun x=>x.Col):=(iN eP)
def OR:qZ gU 1 rB (fun x=>x.Desc):=(bI eP rfl)
def aa0: ∀S,gU.rc S [.int .i64 0,.bool false] ((⟨(0:Int),false⟩:jG)):=fun _=>⟨[.int .i64 0],[.bool false],rfl,rfl,rfl⟩
structure aq where
 Op:Int
 A:Int
 B:Int
 Table:Int
 Kinds:(List Int)
 Left:Bool
 Cond:cy
 Keys:(List Int)
 Aggs:(List jt)
 Items:(List cy)
 Order:(List jG)
 Limit:Int
 deriving DecidableEq,Inhabited
def aW:Rp aq:=rW (dP (rI .i64) (dP (rI .i64) (dP (rI .i64) (dP (rI .i64) (dP (f9 (rI .i64)) (dP rB (dP cm (dP (f9 (rI .i64)) (dP (f9 eM) (dP (f9 cm) (dP (f9 gU) (rI .i64)))))))))))) (fun x=>(x.Op,x.A,x.B,x.Table,x.Kinds,x.Left,x.Cond,x.Keys,x.Aggs,x.Items,x.Order,x.Limit))
def gJ:qZ aW 0 (rI .i64) (fun x=>x.Op):=(iN eP)
def Hl:lh aW 0 (rI .i64) (fun x y=>{x with Op:=y}):=ek gT (fun _ _=>rfl)
def de:qZ aW 1 (rI .i64) (fun x=>x.A):=(iN (bI eP rfl))
def Hk:lh aW 1 (rI .i64) (fun x y=>{x with A:=y}):=ek (bJ gT rfl) (fun _ _=>rfl)
def fW:qZ aW 2 (rI .i64) (fun x=>x.B):=(iN (bI (bI eP rfl) rfl))
def CE:lh aW 2 (rI .i64) (fun x y=>{x with B:=y}):=ek (bJ (bJ gT rfl) rfl) (fun _ _=>rfl)
def jp:qZ aW 3 (rI .i64) (fun x=>x.Table):=(iN (bI (bI (bI eP rfl) rfl) rfl))
def PY:lh aW 3 (rI .i64) (fun x y=>{x with Table:=y}):=ek (bJ (bJ (bJ gT rfl) rfl) rfl) (fun _ _=>rfl)
def iZ:qZ aW 4 (f9 (rI .i64)) (fun x=>x.Kinds):=(iN (bI (bI (bI (bI eP rfl) rfl) rfl) rfl))
def CD:lh aW 4 (f9 (rI .i64)) (fun x y=>{x with Kinds:=y}):=ek (bJ (bJ (bJ (bJ gT rfl) rfl) rfl) rfl) (fun _ _=>rfl)
def zl:qZ aW 5 rB (fun x=>x.Left):=(iN (bI (bI (bI (bI (bI eP rfl) rfl) rfl) rfl) rfl))
def PX:lh aW 5 rB (fun x y=>{x with Left:=y}):=ek (bJ (bJ (bJ (bJ (bJ gT rfl) rfl) rfl) rfl) rfl) (fun _ _=>rfl)
def kK:qZ aW 6 cm (fun x=>x.Cond):=(iN (bI (bI (bI (bI (bI (bI eP rfl) rfl) rfl) rfl) rfl) rfl))
def CC:lh aW 6 cm (fun x y=>{x with Cond:=y}):=ek (bJ (bJ (bJ (bJ (bJ (bJ gT rfl) rfl) rfl) rfl) rfl) rfl) (fun _ _=>rfl)
def iY:qZ aW 7 (f9 (rI .i64)) (fun x=>x.Keys):=(iN (bI (bI (bI (bI (bI (bI (bI eP rfl) rfl) rfl) rfl) rfl) rfl) rfl))
def Hj:lh aW 7 (f9 (rI .i64)) (fun x y=>{x with Keys:=y}):=ek (bJ (bJ (bJ (bJ (bJ (bJ (bJ gT rfl) rfl) rfl) rfl) rfl) rfl) rfl) (fun _ _=>rfl)
def kJ:qZ aW 8 (f9 eM) (fun x=>x.Aggs):=(iN (bI (bI (bI (bI (bI (bI (bI (bI eP rfl) rfl) rfl) rfl) rfl) rfl) rfl) rfl))
def Hi:lh aW 8 (f9 eM) (fun x y=>{x with Aggs:=y}):=ek (bJ (bJ (bJ (bJ (bJ (bJ (bJ (bJ gT rfl) rfl) rfl) rfl) rfl) rfl) rfl) rfl) (fun _ _=>rfl)
def kI:qZ aW 9 (f9 cm) (fun x=>x.Items):=(iN (bI (bI (bI (bI (bI (bI (bI (bI (bI eP rfl) rfl) rfl) rfl) rfl) rfl) rfl) rfl) rfl))
def PW:lh aW 9 (f9 cm) (fun x y=>{x with Items:=y}):=ek (bJ (bJ (bJ (bJ (bJ (bJ (bJ (bJ (bJ gT rfl) rfl) rfl) rfl) rfl) rfl) rfl) rfl) rfl) (fun _ _=>rfl)
def kh:qZ aW 10 (f9 gU) (fun x=>x.Order):=(iN (bI (bI (bI (bI (bI (bI (bI (bI (bI (bI eP rfl) rfl) rfl) rfl) rfl) rfl) rfl) rfl) rfl) rfl))
def FJ:lh aW 10 (f9 gU) (fun x y=>{x with Order:=y}):=ek (bJ (bJ (bJ (bJ (bJ (bJ (bJ (bJ (bJ (bJ gT rfl) rfl) rfl) rfl) rfl) rfl) rfl) rfl) rfl) rfl) (fun _ _=>rfl)
def oy:qZ aW 11 (rI .i64) (fun x=>x.Limit):=(bI (bI (bI (bI (bI (bI (bI (bI (bI (bI (bI eP rfl) rfl) rfl) rfl) rfl) rfl) rfl) rfl) rfl) rfl) rfl)
def NL:lh aW 11 (rI .i64) (fun x y=>{x with Limit:=y}):=ek (bJ (bJ (bJ (bJ (bJ (bJ (bJ (bJ (bJ (bJ (bJ ah rfl) rfl) rfl) rfl) rfl) rfl) rfl) rfl) rfl) rfl) rfl) (fun _ _=>rfl)
def mS: ∀S,aW.rc S [.int .i64 0,.int .i64 0,.int .i64 0,.int .i64 0,.slice none 0 0,.bool false,.slice none 0 0,.slice none 0 0,.slice none 0 0,.slice none 0 0,.slice none 0 0,.int .i64 0] ((⟨(0:Int),(0:Int),(0:Int),(0:Int),[],false,(⟨[]⟩:cy),[],[],[],[],(0:Int)⟩:aq)):=fun _=>⟨[.int .i64 0],[.int .i64 0,.int .i64 0,.int .i64 0,.slice none 0 0,.bool false,.slice none 0 0,.slice none 0 0,.slice none 0 0,.slice none 0 0,.slice none 0 0,.int .i64 0],rfl,rfl,⟨[.int .i64 0],[.int .i64 0,.int .i64 0,.slice none 0 0,.bool false,.slice none 0 0,.slice none 0 0,.slice none 0 0,.slice none 0 0,.slice none 0 0,.int .i64 0],rfl,rfl,⟨[.int .i64 0],[.int .i64 0,.slice none 0 0,.bool false,.slice none 0 0,.slice none 0 0,.slice none 0 0,.slice none 0 0,.slice none 0 0,.int .i64 0],rfl,rfl,⟨[.int .i64 0],[.slice none 0 0,.bool false,.slice none 0 0,.slice none 0 0,.slice none 0 0,.slice none 0 0,.slice none 0 0,.int .i64 0],rfl,rfl,⟨[.slice none 0 0],[.bool false,.slice none 0 0,.slice none 0 0,.slice none 0 0,.slice none 0 0,.slice none 0 0,.int .i64 0],rfl,⟨none,0,rfl,fa _,lG _,.inl rfl⟩,⟨[.bool false],[.slice none 0 0,.slice none 0 0,.slice none 0 0,.slice none 0 0,.slice none 0 0,.int .i64 0],rfl,rfl,⟨[.slice none 0 0],[.slice none 0 0,.slice none 0 0,.slice none 0 0,.slice none 0 0,.int .i64 0],rfl,vm _,⟨[.slice none 0 0],[.slice none 0 0,.slice none 0 0,.slice none 0 0,.int .i64 0],rfl,⟨none,0,rfl,fa _,lG _,.inl rfl⟩,⟨[.slice none 0 0],[.slice none 0 0,.slice none 0 0,.int .i64 0],rfl,⟨none,0,rfl,fa _,lG _,.inl rfl⟩,⟨[.slice none 0 0],[.slice none 0 0,.int .i64 0],rfl,⟨none,0,rfl,fa _,lG _,.inl rfl⟩,⟨[.slice none 0 0],[.int .i64 0],rfl,⟨none,0,rfl,fa _,lG _,.inl rfl⟩,rfl⟩⟩⟩⟩⟩⟩⟩⟩⟩⟩⟩
structure cC where
 Nodes:(List aq)
 deriving DecidableEq,Inhabited
def cX:Rp cC:=rW (f9 aW) (fun x=>(x.Nodes))
def gi:qZ cX 0 (f9 aW) (fun x=>x.Nodes):=eP
def PV:lh cX 0 (f9 aW) (fun x y=>{x with Nodes:=y}):=ek ah (fun _ _=>rfl)
def v7: ∀S,cX.rc S [.slice none 0 0] ((⟨[]⟩:cC)):=fun _=>⟨none,0,rfl,fa _,lG _,.inl rfl⟩
structure aX where
 Logic:cC
 kinds:(List (List Int))
 first:(List Int)
 deriving DecidableEq,Inhabited
def cg:Rp aX:=rW (dP cX (dP (f9 (f9 (rI .i64))) (f9 (rI .i64)))) (fun x=>(x.Logic,x.kinds,x.first))
def zk:qZ cg 0 cX (fun x=>x.Logic):=(iN eP)
def Ls:lh cg 0 cX (fun x y=>{x with Logic:=y}):=ek gT (fun _ _=>rfl)
def Mj:qZ cg 1 (f9 (f9 (rI .i64))) (fun x=>x.kinds):=(iN (bI eP rfl))
def Lr:lh cg 1 (f9 (f9 (rI .i64))) (fun x y=>{x with kinds:=y}):=ek (bJ gT rfl) (fun _ _=>rfl)
def D2:qZ cg 2 (f9 (rI .i64)) (fun x=>x.first):=(bI (bI eP rfl) rfl)
def Lq:lh cg 2 (f9 (rI .i64)) (fun x y=>{x with first:=y}):=ek (bJ (bJ ah rfl) rfl) (fun _ _=>rfl)
def PH: ∀S,cg.rc S [.slice none 0 0,.slice none 0 0,.slice none 0 0] ((⟨(⟨[]⟩:cC),[],[]⟩:aX)):=fun _=>⟨[.slice none 0 0],[.slice none 0 0,.slice none 0 0],rfl,v7 _,⟨[.slice none 0 0],[.slice none 0 0],rfl,⟨none,0,rfl,fa _,lG _,.inl rfl⟩,⟨none,0,rfl,fa _,lG _,.inl rfl⟩⟩⟩
structure dg where
 Tables:(List (List (List ac)))
 deriving DecidableEq,Inhabited
def fX:Rp dg:=rW (f9 (f9 (f9 ae))) (fun x=>(x.Tables))
def jB:qZ fX 0 (f9 (f9 (f9 ae))) (fun x=>x.Tables):=eP
def Tq:lh fX 0 (f9 (f9 (f9 ae))) (fun x y=>{x with Tables:=y}):=ek ah (fun _ _=>rfl)
def Dp: ∀S,fX.rc S [.slice none 0 0] ((⟨[]⟩:dg)):=fun _=>⟨none,0,rfl,fa _,lG _,.inl rfl⟩
structure fy where
 Base:dg
 rows:(List (List (List ac)))
 width:(List Int)
 deriving DecidableEq,Inhabited
def hX:Rp fy:=rW (dP fX (dP (f9 (f9 (f9 ae))) (f9 (rI .i64)))) (fun x=>(x.Base,x.rows,x.width))
def VF:qZ hX 0 fX (fun x=>x.Base):=(iN eP)
def UZ:lh hX 0 fX (fun x y=>{x with Base:=y}):=ek gT (fun _ _=>rfl)
def UY:lh hX 1 (f9 (f9 (f9 ae))) (fun x y=>{x with rows:=y}):=ek (bJ gT rfl) (fun _ _=>rfl)
def UX:lh hX 2 (f9 (rI .i64)) (fun x y=>{x with width:=y}):=ek (bJ (bJ ah rfl) rfl) (fun _ _=>rfl)
def aaZ: ∀S,hX.rc S [.slice none 0 0,.slice none 0 0,.slice none 0 0] ((⟨(⟨[]⟩:dg),[],[]⟩:fy)):=fun _=>⟨[.slice none 0 0],[.slice none 0 0,.slice none 0 0],rfl,Dp _,⟨[.slice none 0 0],[.slice none 0 0],rfl,⟨none,0,rfl,fa _,lG _,.inl rfl⟩,⟨none,0,rfl,fa _,lG _,.inl rfl⟩⟩⟩
structure eg where
 Key:(List ac)
 Rows:(List (List ac))
 deriving DecidableEq,Inhabited
def dF:Rp eg:=rW (dP (f9 ae) (f9 (f9 ae))) (fun x=>(x.Key,x.Rows))
def Ie:qZ dF 0 (f9 ae) (fun x=>x.Key):=(iN eP)
def Hn:lh dF 0 (f9 ae) (fun x y=>{x with Key:=y}):=ek gT (fun _ _=>rfl)
def CW:qZ dF 1 (f9 (f9 ae)) (fun x=>x.Rows):=(bI eP rfl)
def Hm:lh dF 1 (f9 (f9 ae)) (fun x y=>{x with Rows:=y}):=ek (bJ ah rfl) (fun _ _=>rfl)
def Aj: ∀S,dF.rc S [.slice none 0 0,.slice none 0 0] ((⟨[],[]⟩:eg)):=fun _=>⟨[.slice none 0 0],[.slice none 0 0],rfl,⟨none,0,rfl,fa _,lG _,.inl rfl⟩,⟨none,0,rfl,fa _,lG _,.inl rfl⟩⟩
structure d8 where
 D:(List Int)
 Below:Bool
 deriving DecidableEq,Inhabited
def dE:Rp d8:=rW (dP (qH (rI .u64) 8) rB) (fun x=>(x.D,x.Below))
def fQ:qZ dE 0 (qH (rI .u64) 8) (fun x=>x.D):=(iN eP)
def sP:lh dE 0 (qH (rI .u64) 8) (fun x y=>{x with D:=y}):=ek gT (fun _ _=>rfl)
def nZ:qZ dE 8 rB (fun x=>x.Below):=(bI eP rfl)
def xY:lh dE 8 rB (fun x y=>{x with Below:=y}):=ek (bJ ah rfl) (fun _ _=>rfl)
def u6: ∀S,dE.rc S [.int .u64 0,.int .u64 0,.int .u64 0,.int .u64 0,.int .u64 0,.int .u64 0,.int .u64 0,.int .u64 0,.bool false] ((⟨(List.replicate 8 (0:Int)),false⟩:d8)):=fun _=>⟨[.int .u64 0,.int .u64 0,.int .u64 0,.int .u64 0,.int .u64 0,.int .u64 0,.int .u64 0,.int .u64 0],[.bool false],rfl,(Es (r:=(rI .u64)) 8 (fun _=>rfl) _),rfl⟩
structure Pn where
 Nodes:Value
def rP:Rp Pn:=rW rV (fun x=>(x.Nodes))
def Mi:qZ rP 0 rV (fun x=>x.Nodes):=eP
def tW(y:cC)(v0:Value):Pn:=⟨v0⟩
def PG: ∀S,rP.rc S [.slice none 0 0] (tW ((⟨[]⟩:cC)) (bw none 0 0)):=fun _=>⟨rfl,rfl⟩
structure S9 where
 Tables:Value
def si:Rp S9:=rW rV (fun x=>(x.Tables))
def OQ:qZ si 0 rV (fun x=>x.Tables):=eP
def tX(y:dg)(v0:Value):S9:=⟨v0⟩
def Tg: ∀S,si.rc S [.slice none 0 0] (tX ((⟨[]⟩:dg)) (bw none 0 0)):=fun _=>⟨rfl,rfl⟩
structure Po where
 Op:Int
 A:Int
 B:Int
 Table:Int
 Kinds:(List Int)
 Left:Bool
 Cond:cy
 Keys:(List Int)
 Aggs:Value
 Items:(List cy)
 Order:(List jG)
 Limit:Int
def Hv:Rp Po:=rW (dP (rI .i64) (dP (rI .i64) (dP (rI .i64) (dP (rI .i64) (dP (f9 (rI .i64)) (dP rB (dP cm (dP (f9 (rI .i64)) (dP rV (dP (f9 cm) (dP (f9 gU) (rI .i64)))))))))))) (fun x=>(x.Op,x.A,x.B,x.Table,x.Kinds,x.Left,x.Cond,x.Keys,x.Aggs,x.Items,x.Order,x.Limit))
def H1(y:aq)(v8:Value):Po:=⟨y.Op,y.A,y.B,y.Table,y.Kinds,y.Left,y.Cond,y.Keys,v8,y.Items,y.Order,y.Limit⟩
structure IY where
 Op:Int
 A:Int
 B:Int
 Table:Int
 Kinds:(List Int)
 Left:Bool
 Cond:cy
 Keys:(List Int)
 Aggs:Value
 Items:Value
 Order:(List jG)
 Limit:Int
def mV:Rp IY:=rW (dP (rI .i64) (dP (rI .i64) (dP (rI .i64) (dP (rI .i64) (dP (f9 (rI .i64)) (dP rB (dP cm (dP (f9 (rI .i64)) (dP rV (dP rV (dP (f9 gU) (rI .i64)))))))))))) (fun x=>(x.Op,x.A,x.B,x.Table,x.Kinds,x.Left,x.Cond,x.Keys,x.Aggs,x.Items,x.Order,x.Limit))
def wA:qZ mV 8 rV (fun x=>x.Aggs):=(iN (bI (bI (bI (bI (bI (bI (bI (bI eP rfl) rfl) rfl) rfl) rfl) rfl) rfl) rfl))
def wz:qZ mV 9 rV (fun x=>x.Items):=(iN (bI (bI (bI (bI (bI (bI (bI (bI (bI eP rfl) rfl) rfl) rfl) rfl) rfl) rfl) rfl) rfl))
def qK(y:aq)(v8:Value)(v9:Value):IY:=⟨y.Op,y.A,y.B,y.Table,y.Kinds,y.Left,y.Cond,y.Keys,v8,v9,y.Order,y.Limit⟩
def Gm{S:SH}{cs:List Value}{y:cC}{v0:Value}{xs0:(List aq)}(k0:(f9 aW).rc S [v0] xs0)(h:rP.rc S cs (tW y v0)):cX.rc S cs ((⟨xs0⟩:cC)):=by
 have h0:=h
 exact(by rw [h0.1];exact k0)
def IE{S:SH}{cs:List Value}{y:dg}{v0:Value}{xs0:(List (List (List ac)))}(k0:(f9 (f9 (f9 ae))).rc S [v0] xs0)(h:si.rc S cs (tX y v0)):fX.rc S cs ((⟨xs0⟩:dg)):=by
 have h0:=h
 exact(by rw [h0.1];exact k0)
def Ek{S:SH}{cs:List Value}{y:aq}{v8:Value}{v9:Value}{xs8:(List jt)}(k8:(f9 eM).rc S [v8] xs8){xs9:(List cy)}(k9:(f9 cm).rc S [v9] xs9)(h:mV.rc S cs (qK y v8 v9)):aW.rc S cs ((⟨y.Op,y.A,y.B,y.Table,y.Kinds,y.Left,y.Cond,y.Keys,xs8,xs9,y.Order,y.Limit⟩:aq)):=by
 obtain⟨a0,b0,e0,h0,a1,b1,e1,I,a2,b2,e2,K,a3,b3,e3,h3,a4,b4,e4,h4,a5,b5,e5,h5,a6,b6,e6,h6,a7,b7,e7,h7,a8,b8,e8,h8,a9,b9,e9,h9,a10,b10,e10,h10,h11⟩:=h
 exact⟨a0,b0,e0,h0,a1,b1,e1,I,a2,b2,e2,K,a3,b3,e3,h3,a4,b4,e4,h4,a5,b5,e5,h5,a6,b6,e6,h6,a7,b7,e7,h7,a8,b8,e8,(by rw [h8.1];exact k8),a9,b9,e9,(by rw [h9.1];exact k9),a10,b10,e10,h10,h11⟩
def Aq(y:cC)(u:Value)(v:Value):th rP rP 0 rV (tW y u) v (tW y v):=Gs (xX rfl) rfl
def BQ(y:dg)(u:Value)(v:Value):th si si 0 rV (tX y u) v (tX y v):=Gs (xX rfl) rfl
def CB(y:aq)(v:Value):th aW Hv 8 rV (y) v (H1 y v):=Gs (mU (mU (mU (mU (mU (mU (mU (mU (Rx (xX rfl) rfl) rfl) rfl) rfl) rfl) rfl) rfl) rfl) rfl) rfl
def yS(y:aq)(v8:Value)(v:Value):th Hv mV 9 rV (H1 y v8) v (qK y v8 v):=Gs (mU (mU (mU (mU (mU (mU (mU (mU (mU (Rx (xX rfl) rfl) rfl) rfl) rfl) rfl) rfl) rfl) rfl) rfl) rfl) rfl
def fJ(b:Nat)(x:aX)(i:OI):List OE:=[bx (rH cg [(1,bw (i.h 0).1 (i.h 0).2 x.kinds.length),(2,bw (i.h 1).1 (i.h 1).2 x.first.length)]) 108 b x,gO (f9 (rI .i64)) 39 (i.h 0).1 (i.h 0).2 x.kinds,gO (rI .i64) 3 (i.h 1).1 (i.h 1).2 x.first]
def lM(b:Nat)(x:fy)(i:OI):List OE:=[bx (rH hX [(1,bw (i.h 0).1 (i.h 0).2 x.rows.length),(2,bw (i.h 1).1 (i.h 1).2 x.width.length)]) 65 b x,gO (f9 (f9 ae)) 32 (i.h 0).1 (i.h 0).2 x.rows,gO (rI .i64) 3 (i.h 1).1 (i.h 1).2 x.width]
def gv0:(List ac):=[(⟨(1:Int),(0:Int),(0:Int),[]⟩:ac),(⟨(0:Int),(0:Int),(0:Int),[]⟩:ac),(⟨(1:Int),(1:Int),(0:Int),[]⟩:ac)]
def gm0:((0:Nat),([.int .i64 (1),.int .i64 (0),.int .u64 (0),.string ⟨([]:List UInt8).toArray⟩,.int .i64 (0),.int .i64 (0),.int .u64 (0),.string ⟨([]:List UInt8).toArray⟩,.int .i64 (1),.int .i64 (1),.int .u64 (0),.string ⟨([]:List UInt8).toArray⟩]:List Value))∈glob:=by simp [glob]
def gr0: ∀S,(qH ae 3).rc S ([.int .i64 (1),.int .i64 (0),.int .u64 (0),.string ⟨([]:List UInt8).toArray⟩,.int .i64 (0),.int .i64 (0),.int .u64 (0),.string ⟨([]:List UInt8).toArray⟩,.int .i64 (1),.int .i64 (1),.int .u64 (0),.string ⟨([]:List UInt8).toArray⟩]:List Value) gv0:=fun _=>⟨rfl,⟨[.int .i64 (1),.int .i64 (0),.int .u64 (0),.string ⟨([]:List UInt8).toArray⟩],[.int .i64 (0),.int .i64 (0),.int .u64 (0),.string ⟨([]:List UInt8).toArray⟩,.int .i64 (1),.int .i64 (1),.int .u64 (0),.string ⟨([]:List UInt8).toArray⟩],rfl,⟨[.int .i64 (1)],[.int .i64 (0),.int .u64 (0),.string ⟨([]:List UInt8).toArray⟩],rfl,rfl,⟨[.int .i64 (0)],[.int .u64 (0),.string ⟨([]:List UInt8).toArray⟩],rfl,rfl,⟨[.int .u64 (0)],[.string ⟨([]:List UInt8).toArray⟩],rfl,rfl,rfl⟩⟩⟩,⟨[.int .i64 (0),.int .i64 (0),.int .u64 (0),.string ⟨([]:List UInt8).toArray⟩],[.int .i64 (1),.int .i64 (1),.int .u64 (0),.string ⟨([]:List UInt8).toArray⟩],rfl,⟨[.int .i64 (0)],[.int .i64 (0),.int .u64 (0),.string ⟨([]:List UInt8).toArray⟩],rfl,rfl,⟨[.int .i64 (0)],[.int .u64 (0),.string ⟨([]:List UInt8).toArray⟩],rfl,rfl,⟨[.int .u64 (0)],[.string ⟨([]:List UInt8).toArray⟩],rfl,rfl,rfl⟩⟩⟩,⟨[.int .i64 (1),.int .i64 (1),.int .u64 (0),.string ⟨([]:List UInt8).toArray⟩],[],rfl,⟨[.int .i64 (1)],[.int .i64 (1),.int .u64 (0),.string ⟨([]:List UInt8).toArray⟩],rfl,rfl,⟨[.int .i64 (1)],[.int .u64 (0),.string ⟨([]:List UInt8).toArray⟩],rfl,rfl,⟨[.int .u64 (0)],[.string ⟨([]:List UInt8).toArray⟩],rfl,rfl,rfl⟩⟩⟩,(rfl:_=[])⟩⟩⟩⟩

end Go.Proofs.YtpgjgkdpeagjbaaGreatDoor

