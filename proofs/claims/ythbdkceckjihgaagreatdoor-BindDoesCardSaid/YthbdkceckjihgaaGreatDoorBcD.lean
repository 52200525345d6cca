/- dm of this claim: D. -/
import Derived.Test.YthbdkceckjihgaaGreatDoorBcV3
import Derived.Test.YthbdkceckjihgaaGreatDoorBcV4
set_option linter.all false
namespace Go.Proofs.YthbdkceckjihgaaGreatDoor
open Go

structure cb where
 Name:cX
 Kind:Int
 deriving DecidableEq,Inhabited
def cQ:Rp cb:=kg (cn rS (rI .i64)) (fun x=>(x.Name,x.Kind))
def ky:jj cQ 0 rS (fun x=>x.Name):=(cB bK)
def zz:eP cQ 0 rS (fun x y=>{x with Name:=y}):=bR cP (fun _ _=>rfl)
def ud:jj cQ 1 (rI .i64) (fun x=>x.Kind):=(aG bK rfl)
def zy:eP cQ 1 (rI .i64) (fun x y=>{x with Kind:=y}):=bR (aF aj rfl) (fun _ _=>rfl)
def oC: ∀S,cQ.rc S [.string ⟨#[]⟩,.int .i64 0] ((⟨[],(0:Int)⟩:cb)):=fun _=>⟨[.string ⟨#[]⟩],[.int .i64 0],rfl,rfl,rfl⟩
structure Jw where
 word:cX
 kind:Int
 deriving DecidableEq,Inhabited
def Al:Rp Jw:=kg (cn rS (rI .i64)) (fun x=>(x.word,x.kind))
def RO:jj Al 0 rS (fun x=>x.word):=(cB bK)
def RN:jj Al 1 (rI .i64) (fun x=>x.kind):=(aG bK rfl)
def UH: ∀S,Al.rc S [.string ⟨#[]⟩,.int .i64 0] ((⟨[],(0:Int)⟩:Jw)):=fun _=>⟨[.string ⟨#[]⟩],[.int .i64 0],rfl,rfl,rfl⟩
structure bU where
 Name:cX
 Columns:(List cb)
 Keys:(List Int)
 deriving DecidableEq,Inhabited
def cv:Rp bU:=kg (cn rS (cn (eM cQ) (eM (rI .i64)))) (fun x=>(x.Name,x.Columns,x.Keys))
def pF:jj cv 0 rS (fun x=>x.Name):=(cB bK)
def Gq:eP cv 0 rS (fun x y=>{x with Name:=y}):=bR cP (fun _ _=>rfl)
def ev:jj cv 1 (eM cQ) (fun x=>x.Columns):=(cB (aG bK rfl))
def BK:eP cv 1 (eM cQ) (fun x y=>{x with Columns:=y}):=bR (aF cP rfl) (fun _ _=>rfl)
def j7:jj cv 2 (eM (rI .i64)) (fun x=>x.Keys):=(aG (aG bK rfl) rfl)
def Nr:eP cv 2 (eM (rI .i64)) (fun x y=>{x with Keys:=y}):=bR (aF (aF aj rfl) rfl) (fun _ _=>rfl)
def zj: ∀S,cv.rc S [.string ⟨#[]⟩,.slice none 0 0,.slice none 0 0] ((⟨[],[],[]⟩:bU)):=fun _=>⟨[.string ⟨#[]⟩],[.slice none 0 0,.slice none 0 0],rfl,rfl,⟨[.slice none 0 0],[.slice none 0 0],rfl,⟨none,0,rfl,f7 _,jR _,.inl rfl⟩,⟨none,0,rfl,f7 _,jR _,.inl rfl⟩⟩⟩
structure aJ where
 Tables:(List bU)
 deriving DecidableEq,Inhabited
def bG:Rp aJ:=kg (eM cv) (fun x=>(x.Tables))
def dE:jj bG 0 (eM cv) (fun x=>x.Tables):=bK
def JS:eP bG 0 (eM cv) (fun x y=>{x with Tables:=y}):=bR aj (fun _ _=>rfl)
def sI: ∀S,bG.rc S [.slice none 0 0] ((⟨[]⟩:aJ)):=fun _=>⟨none,0,rfl,f7 _,jR _,.inl rfl⟩
structure cJ where
 Kind:Int
 N:Int
 U:Int
 S:cX
 deriving DecidableEq,Inhabited
def ek:Rp cJ:=kg (cn (rI .i64) (cn (rI .i64) (cn (rI .u64) rS))) (fun x=>(x.Kind,x.N,x.U,x.S))
def pE:jj ek 0 (rI .i64) (fun x=>x.Kind):=(cB bK)
def BJ:eP ek 0 (rI .i64) (fun x y=>{x with Kind:=y}):=bR cP (fun _ _=>rfl)
def pD:jj ek 1 (rI .i64) (fun x=>x.N):=(cB (aG bK rfl))
def Gp:eP ek 1 (rI .i64) (fun x y=>{x with N:=y}):=bR (aF cP rfl) (fun _ _=>rfl)
def yl:jj ek 2 (rI .u64) (fun x=>x.U):=(cB (aG (aG bK rfl) rfl))
def Nq:eP ek 2 (rI .u64) (fun x y=>{x with U:=y}):=bR (aF (aF cP rfl) rfl) (fun _ _=>rfl)
def kW:jj ek 3 rS (fun x=>x.S):=(aG (aG (aG bK rfl) rfl) rfl)
def Gn:eP ek 3 rS (fun x y=>{x with S:=y}):=bR (aF (aF (aF aj rfl) rfl) rfl) (fun _ _=>rfl)
def om: ∀S,ek.rc S [.int .i64 0,.int .i64 0,.int .u64 0,.string ⟨#[]⟩] ((⟨(0:Int),(0:Int),(0:Int),[]⟩:cJ)):=fun _=>⟨[.int .i64 0],[.int .i64 0,.int .u64 0,.string ⟨#[]⟩],rfl,rfl,⟨[.int .i64 0],[.int .u64 0,.string ⟨#[]⟩],rfl,rfl,⟨[.int .u64 0],[.string ⟨#[]⟩],rfl,rfl,rfl⟩⟩⟩
structure dj where
 Tag:Int
 L:Int
 R:Int
 Value:cJ
 Table:cX
 Name:cX
 deriving DecidableEq,Inhabited
def dd:Rp dj:=kg (cn (rI .i64) (cn (rI .i64) (cn (rI .i64) (cn ek (cn rS rS))))) (fun x=>(x.Tag,x.L,x.R,x.Value,x.Table,x.Name))
def gY:jj dd 0 (rI .i64) (fun x=>x.Tag):=(cB bK)
def Rb:eP dd 0 (rI .i64) (fun x y=>{x with Tag:=y}):=bR cP (fun _ _=>rfl)
def p8:jj dd 1 (rI .i64) (fun x=>x.L):=(cB (aG bK rfl))
def Ra:eP dd 1 (rI .i64) (fun x y=>{x with L:=y}):=bR (aF cP rfl) (fun _ _=>rfl)
def ru:jj dd 2 (rI .i64) (fun x=>x.R):=(cB (aG (aG bK rfl) rfl))
def Q9:eP dd 2 (rI .i64) (fun x y=>{x with R:=y}):=bR (aF (aF cP rfl) rfl) (fun _ _=>rfl)
def lL:jj dd 3 ek (fun x=>x.Value):=(cB (aG (aG (aG bK rfl) rfl) rfl))
def Q8:eP dd 3 ek (fun x y=>{x with Value:=y}):=bR (aF (aF (aF cP rfl) rfl) rfl) (fun _ _=>rfl)
def oM:jj dd 7 rS (fun x=>x.Table):=(cB (aG (aG (aG (aG bK rfl) rfl) rfl) rfl))
def Q7:eP dd 7 rS (fun x y=>{x with Table:=y}):=bR (aF (aF (aF (aF cP rfl) rfl) rfl) rfl) (fun _ _=>rfl)
def mo:jj dd 8 rS (fun x=>x.Name):=(aG (aG (aG (aG (aG bK rfl) rfl) rfl) rfl) rfl)
def IN:eP dd 8 rS (fun x y=>{x with Name:=y}):=bR (aF (aF (aF (aF (aF aj rfl) rfl) rfl) rfl) rfl) (fun _ _=>rfl)
def wl: ∀S,dd.rc S [.int .i64 0,.int .i64 0,.int .i64 0,.int .i64 0,.int .i64 0,.int .u64 0,.string ⟨#[]⟩,.string ⟨#[]⟩,.string ⟨#[]⟩] ((⟨(0:Int),(0:Int),(0:Int),(⟨(0:Int),(0:Int),(0:Int),[]⟩:cJ),[],[]⟩:dj)):=fun _=>⟨[.int .i64 0],[.int .i64 0,.int .i64 0,.int .i64 0,.int .i64 0,.int .u64 0,.string ⟨#[]⟩,.string ⟨#[]⟩,.string ⟨#[]⟩],rfl,rfl,⟨[.int .i64 0],[.int .i64 0,.int .i64 0,.int .i64 0,.int .u64 0,.string ⟨#[]⟩,.string ⟨#[]⟩,.string ⟨#[]⟩],rfl,rfl,⟨[.int .i64 0],[.int .i64 0,.int .i64 0,.int .u64 0,.string ⟨#[]⟩,.string ⟨#[]⟩,.string ⟨#[]⟩],rfl,rfl,⟨[.int .i64 0,.int .i64 0,.int .u64 0,.string ⟨#[]⟩],[.string ⟨#[]⟩,.string ⟨#[]⟩],rfl,om _,⟨[.string ⟨#[]⟩],[.string ⟨#[]⟩],rfl,rfl,rfl⟩⟩⟩⟩⟩
structure db where
 Nodes:(List dj)
 deriving DecidableEq,Inhabited
def bD:Rp db:=kg (eM dd) (fun x=>(x.Nodes))
def dX:jj bD 0 (eM dd) (fun x=>x.Nodes):=bK
def Q6:eP bD 0 (eM dd) (fun x y=>{x with Nodes:=y}):=bR aj (fun _ _=>rfl)
def uO: ∀S,bD.rc S [.slice none 0 0] ((⟨[]⟩:db)):=fun _=>⟨none,0,rfl,f7 _,jR _,.inl rfl⟩
structure fK where
 Tree:db
 As:cX
 deriving DecidableEq,Inhabited
def d5:Rp fK:=kg (cn bD rS) (fun x=>(x.Tree,x.As))
def j9:jj d5 0 bD (fun x=>x.Tree):=(cB bK)
def IR:eP d5 0 bD (fun x y=>{x with Tree:=y}):=bR cP (fun _ _=>rfl)
def vp:jj d5 1 rS (fun x=>x.As):=(aG bK rfl)
def tg: ∀S,d5.rc S [.slice none 0 0,.string ⟨#[]⟩] ((⟨(⟨[]⟩:db),[]⟩:fK)):=fun _=>⟨[.slice none 0 0],[.string ⟨#[]⟩],rfl,uO _,rfl⟩
structure d7 where
 Table:cX
 As:cX
 deriving DecidableEq,Inhabited
def be:Rp d7:=kg (cn rS rS) (fun x=>(x.Table,x.As))
def pH:jj be 0 rS (fun x=>x.Table):=(cB bK)
def Ll:eP be 0 rS (fun x y=>{x with Table:=y}):=bR cP (fun _ _=>rfl)
def pG:jj be 1 rS (fun x=>x.As):=(aG bK rfl)
def vl: ∀S,be.rc S [.string ⟨#[]⟩,.string ⟨#[]⟩] ((⟨[],[]⟩:d7)):=fun _=>⟨[.string ⟨#[]⟩],[.string ⟨#[]⟩],rfl,rfl,rfl⟩
structure mZ where
 Left:Bool
 Source:d7
 On:db
 deriving DecidableEq,Inhabited
def dC:Rp mZ:=kg (cn rB (cn be bD)) (fun x=>(x.Left,x.Source,x.On))
def AA:jj dC 0 rB (fun x=>x.Left):=(cB bK)
def vo:jj dC 1 be (fun x=>x.Source):=(cB (aG bK rfl))
def sU:jj dC 3 bD (fun x=>x.On):=(aG (aG bK rfl) rfl)
def Rc:eP dC 3 bD (fun x y=>{x with On:=y}):=bR (aF (aF aj rfl) rfl) (fun _ _=>rfl)
def uP: ∀S,dC.rc S [.bool false,.string ⟨#[]⟩,.string ⟨#[]⟩,.slice none 0 0] ((⟨false,(⟨[],[]⟩:d7),(⟨[]⟩:db)⟩:mZ)):=fun _=>⟨[.bool false],[.string ⟨#[]⟩,.string ⟨#[]⟩,.slice none 0 0],rfl,rfl,⟨[.string ⟨#[]⟩,.string ⟨#[]⟩],[.slice none 0 0],rfl,vl _,uO _⟩⟩
structure jY where
 Table:cX
 Name:cX
 deriving DecidableEq,Inhabited
def fI:Rp jY:=kg (cn rS rS) (fun x=>(x.Table,x.Name))
def xG:jj fI 0 rS (fun x=>x.Table):=(cB bK)
def IQ:eP fI 0 rS (fun x y=>{x with Table:=y}):=bR cP (fun _ _=>rfl)
def xF:jj fI 1 rS (fun x=>x.Name):=(aG bK rfl)
def IP:eP fI 1 rS (fun x y=>{x with Name:=y}):=bR (aF aj rfl) (fun _ _=>rfl)
def Ai: ∀S,fI.rc S [.string ⟨#[]⟩,.string ⟨#[]⟩] ((⟨[],[]⟩:jY)):=fun _=>⟨[.string ⟨#[]⟩],[.string ⟨#[]⟩],rfl,rfl,rfl⟩
structure aK where
 Distinct:Bool
 Star:Bool
 Items:(List fK)
 From:d7
 Joins:(List mZ)
 Where:db
 Having:db
 Group:(List jY)
 deriving DecidableEq,Inhabited
def aW:Rp aK:=kg (cn rB (cn rB (cn (eM d5) (cn be (cn (eM dC) (cn bD (cn bD (eM fI)))))))) (fun x=>(x.Distinct,x.Star,x.Items,x.From,x.Joins,x.Where,x.Having,x.Group))
def wK:jj aW 0 rB (fun x=>x.Distinct):=(cB bK)
def mH:jj aW 1 rB (fun x=>x.Star):=(cB (aG bK rfl))
def eK:jj aW 2 (eM d5) (fun x=>x.Items):=(cB (aG (aG bK rfl) rfl))
def Ln:eP aW 2 (eM d5) (fun x y=>{x with Items:=y}):=bR (aF (aF cP rfl) rfl) (fun _ _=>rfl)
def rt:jj aW 3 be (fun x=>x.From):=(cB (aG (aG (aG bK rfl) rfl) rfl))
def Lm:eP aW 3 be (fun x y=>{x with From:=y}):=bR (aF (aF (aF cP rfl) rfl) rfl) (fun _ _=>rfl)
def eJ:jj aW 5 (eM dC) (fun x=>x.Joins):=(cB (aG (aG (aG (aG bK rfl) rfl) rfl) rfl))
def nL:jj aW 6 bD (fun x=>x.Where):=(cB (aG (aG (aG (aG (aG bK rfl) rfl) rfl) rfl) rfl))
def lD:jj aW 7 bD (fun x=>x.Having):=(cB (aG (aG (aG (aG (aG (aG bK rfl) rfl) rfl) rfl) rfl) rfl))
def gk:jj aW 8 (eM fI) (fun x=>x.Group):=(aG (aG (aG (aG (aG (aG (aG bK rfl) rfl) rfl) rfl) rfl) rfl) rfl)
def xn: ∀S,aW.rc S [.bool false,.bool false,.slice none 0 0,.string ⟨#[]⟩,.string ⟨#[]⟩,.slice none 0 0,.slice none 0 0,.slice none 0 0,.slice none 0 0] ((⟨false,false,[],(⟨[],[]⟩:d7),[],(⟨[]⟩:db),(⟨[]⟩:db),[]⟩:aK)):=fun _=>⟨[.bool false],[.bool false,.slice none 0 0,.string ⟨#[]⟩,.string ⟨#[]⟩,.slice none 0 0,.slice none 0 0,.slice none 0 0,.slice none 0 0],rfl,rfl,⟨[.bool false],[.slice none 0 0,.string ⟨#[]⟩,.string ⟨#[]⟩,.slice none 0 0,.slice none 0 0,.slice none 0 0,.slice none 0 0],rfl,rfl,⟨[.slice none 0 0],[.string ⟨#[]⟩,.string ⟨#[]⟩,.slice none 0 0,.slice none 0 0,.slice none 0 0,.slice none 0 0],rfl,⟨none,0,rfl,f7 _,jR _,.inl rfl⟩,⟨[.string ⟨#[]⟩,.string ⟨#[]⟩],[.slice none 0 0,.slice none 0 0,.slice none 0 0,.slice none 0 0],rfl,vl _,⟨[.slice none 0 0],[.slice none 0 0,.slice none 0 0,.slice none 0 0],rfl,⟨none,0,rfl,f7 _,jR _,.inl rfl⟩,⟨[.slice none 0 0],[.slice none 0 0,.slice none 0 0],rfl,uO _,⟨[.slice none 0 0],[.slice none 0 0],rfl,uO _,⟨none,0,rfl,f7 _,jR _,.inl rfl⟩⟩⟩⟩⟩⟩⟩⟩
structure me where
 first:Int
 depth:Int
 deriving DecidableEq,Inhabited
def ic:Rp me:=kg (cn (rI .i64) (rI .i64)) (fun x=>(x.first,x.depth))
def Hd:jj ic 0 (rI .i64) (fun x=>x.first):=(cB bK)
def Gm:eP ic 0 (rI .i64) (fun x y=>{x with first:=y}):=bR cP (fun _ _=>rfl)
def yk:jj ic 1 (rI .i64) (fun x=>x.depth):=(aG bK rfl)
def Gl:eP ic 1 (rI .i64) (fun x y=>{x with depth:=y}):=bR (aF aj rfl) (fun _ _=>rfl)
def KV: ∀S,ic.rc S [.int .i64 0,.int .i64 0] ((⟨(0:Int),(0:Int)⟩:me)):=fun _=>⟨[.int .i64 0],[.int .i64 0],rfl,rfl,rfl⟩
structure sC where
 Name:cX
 Number:Int
 Desc:Bool
 deriving DecidableEq,Inhabited
def je:Rp sC:=kg (cn rS (cn (rI .i64) rB)) (fun x=>(x.Name,x.Number,x.Desc))
def qI:jj je 0 rS (fun x=>x.Name):=(cB bK)
def oz:jj je 1 (rI .i64) (fun x=>x.Number):=(cB (aG bK rfl))
def SI:eP je 1 (rI .i64) (fun x y=>{x with Number:=y}):=bR (aF cP rfl) (fun _ _=>rfl)
def He:jj je 2 rB (fun x=>x.Desc):=(aG (aG bK rfl) rfl)
def F0: ∀S,je.rc S [.string ⟨#[]⟩,.int .i64 0,.bool false] ((⟨[],(0:Int),false⟩:sC)):=fun _=>⟨[.string ⟨#[]⟩],[.int .i64 0,.bool false],rfl,rfl,⟨[.int .i64 0],[.bool false],rfl,rfl,rfl⟩⟩
structure ce where
 Selects:(List aK)
 Keys:(List sC)
 Limit:Int
 deriving DecidableEq,Inhabited
def cw:Rp ce:=kg (cn (eM aW) (cn (eM je) (rI .i64))) (fun x=>(x.Selects,x.Keys,x.Limit))
def jv:jj cw 0 (eM aW) (fun x=>x.Selects):=(cB bK)
def Nu:eP cw 0 (eM aW) (fun x y=>{x with Selects:=y}):=bR cP (fun _ _=>rfl)
def j8:jj cw 1 (eM je) (fun x=>x.Keys):=(cB (aG bK rfl))
def Nt:eP cw 1 (eM je) (fun x y=>{x with Keys:=y}):=bR (aF cP rfl) (fun _ _=>rfl)
def pI:jj cw 2 (rI .i64) (fun x=>x.Limit):=(aG (aG bK rfl) rfl)
def Ns:eP cw 2 (rI .i64) (fun x y=>{x with Limit:=y}):=bR (aF (aF aj rfl) rfl) (fun _ _=>rfl)
def zk: ∀S,cw.rc S [.slice none 0 0,.slice none 0 0,.int .i64 0] ((⟨[],[],(0:Int)⟩:ce)):=fun _=>⟨[.slice none 0 0],[.slice none 0 0,.int .i64 0],rfl,⟨none,0,rfl,f7 _,jR _,.inl rfl⟩,⟨[.slice none 0 0],[.int .i64 0],rfl,⟨none,0,rfl,f7 _,jR _,.inl rfl⟩,rfl⟩⟩
structure aD where
 Tag:Int
 L:Int
 R:Int
 Col:Int
 Value:cJ
 deriving DecidableEq,Inhabited
def bt:Rp aD:=kg (cn (rI .i64) (cn (rI .i64) (cn (rI .i64) (cn (rI .i64) ek)))) (fun x=>(x.Tag,x.L,x.R,x.Col,x.Value))
def gN:jj bt 0 (rI .i64) (fun x=>x.Tag):=(cB bK)
def kR:eP bt 0 (rI .i64) (fun x y=>{x with Tag:=y}):=bR cP (fun _ _=>rfl)
def mS:jj bt 1 (rI .i64) (fun x=>x.L):=(cB (aG bK rfl))
def vI:eP bt 1 (rI .i64) (fun x y=>{x with L:=y}):=bR (aF cP rfl) (fun _ _=>rfl)
def lZ:jj bt 2 (rI .i64) (fun x=>x.R):=(cB (aG (aG bK rfl) rfl))
def vH:eP bt 2 (rI .i64) (fun x y=>{x with R:=y}):=bR (aF (aF cP rfl) rfl) (fun _ _=>rfl)
def jw:jj bt 3 (rI .i64) (fun x=>x.Col):=(cB (aG (aG (aG bK rfl) rfl) rfl))
def sN:eP bt 3 (rI .i64) (fun x y=>{x with Col:=y}):=bR (aF (aF (aF cP rfl) rfl) rfl) (fun _ _=>rfl)
def nX:jj bt 4 ek (fun x=>x.Value):=(aG (aG (aG (aG bK rfl) rfl) rfl) rfl)
def Gr:eP bt 4 ek (fun x y=>{x with Value:=y}):=bR (aF (aF (aF (aF aj rfl) rfl) rfl) rfl) (fun _ _=>rfl)
def iN: ∀S,bt.rc S [.int .i64 0,.int .i64 0,.int .i64 0,.int .i64 0,.int .i64 0,.int .i64 0,.int .u64 0,.string ⟨#[]⟩] ((⟨(0:Int),(0:Int),(0:Int),(0:Int),(⟨(0:Int),(0:Int),(0:Int),[]⟩:cJ)⟩:aD)):=fun _=>⟨[.int .i64 0],[.int .i64 0,.int .i64 0,.int .i64 0,.int .i64 0,.int .i64 0,.int .u64 0,.string ⟨#[]⟩],rfl,rfl,⟨[.int .i64 0],[.int .i64 0,.int .i64 0,.int .i64 0,.int .i64 0,.int .u64 0,.string ⟨#[]⟩],rfl,rfl,⟨[.int .i64 0],[.int .i64 0,.int .i64 0,.int .i64 0,.int .u64 0,.string ⟨#[]⟩],rfl,rfl,⟨[.int .i64 0],[.int .i64 0,.int .i64 0,.int .u64 0,.string ⟨#[]⟩],rfl,rfl,om _⟩⟩⟩⟩
structure aZ where
 Nodes:(List aD)
 deriving DecidableEq,Inhabited
def ac:Rp aZ:=kg (eM bt) (fun x=>(x.Nodes))
def ge:jj ac 0 (eM bt) (fun x=>x.Nodes):=bK
def Rd:eP ac 0 (eM bt) (fun x y=>{x with Nodes:=y}):=bR aj (fun _ _=>rfl)
def cZ: ∀S,ac.rc S [.slice none 0 0] ((⟨[]⟩:aZ)):=fun _=>⟨none,0,rfl,f7 _,jR _,.inl rfl⟩
structure la where
 Left:Bool
 On:aZ
 deriving DecidableEq,Inhabited
def av:Rp la:=kg (cn rB ac) (fun x=>(x.Left,x.On))
def Hh:jj av 0 rB (fun x=>x.Left):=(cB bK)
def Gt:eP av 0 rB (fun x y=>{x with Left:=y}):=bR cP (fun _ _=>rfl)
def Hg:jj av 1 ac (fun x=>x.On):=(aG bK rfl)
def Gs:eP av 1 ac (fun x y=>{x with On:=y}):=bR (aF aj rfl) (fun _ _=>rfl)
def KW: ∀S,av.rc S [.bool false,.slice none 0 0] ((⟨false,(⟨[]⟩:aZ)⟩:la)):=fun _=>⟨[.bool false],[.slice none 0 0],rfl,rfl,cZ _⟩
structure lb where
 Tag:Int
 Arg:aZ
 deriving DecidableEq,Inhabited
def aT:Rp lb:=kg (cn (rI .i64) ac) (fun x=>(x.Tag,x.Arg))
def mJ:jj aT 0 (rI .i64) (fun x=>x.Tag):=(cB bK)
def Lr:eP aT 0 (rI .i64) (fun x y=>{x with Tag:=y}):=bR cP (fun _ _=>rfl)
def ue:jj aT 1 ac (fun x=>x.Arg):=(aG bK rfl)
def Lq:eP aT 1 ac (fun x y=>{x with Arg:=y}):=bR (aF aj rfl) (fun _ _=>rfl)
def F2: ∀S,aT.rc S [.int .i64 0,.slice none 0 0] ((⟨(0:Int),(⟨[]⟩:aZ)⟩:lb)):=fun _=>⟨[.int .i64 0],[.slice none 0 0],rfl,rfl,cZ _⟩
structure bb where
 Tables:(List Int)
 Joins:(List la)
 Where:aZ
 Having:aZ
 Grouped:Bool
 Distinct:Bool
 Keys:(List Int)
 Aggs:(List lb)
 Items:(List aZ)
 deriving DecidableEq,Inhabited
def bw:Rp bb:=kg (cn (eM (rI .i64)) (cn (eM av) (cn ac (cn ac (cn rB (cn rB (cn (eM (rI .i64)) (cn (eM aT) (eM ac))))))))) (fun x=>(x.Tables,x.Joins,x.Where,x.Having,x.Grouped,x.Distinct,x.Keys,x.Aggs,x.Items))
def vc:jj bw 0 (eM (rI .i64)) (fun x=>x.Tables):=(cB bK)
def CL:eP bw 0 (eM (rI .i64)) (fun x y=>{x with Tables:=y}):=bR cP (fun _ _=>rfl)
def nY:jj bw 1 (eM av) (fun x=>x.Joins):=(cB (aG bK rfl))
def CK:eP bw 1 (eM av) (fun x y=>{x with Joins:=y}):=bR (aF cP rfl) (fun _ _=>rfl)
def Dc:jj bw 2 ac (fun x=>x.Where):=(cB (aG (aG bK rfl) rfl))
def CJ:eP bw 2 ac (fun x y=>{x with Where:=y}):=bR (aF (aF cP rfl) rfl) (fun _ _=>rfl)
def Db:jj bw 3 ac (fun x=>x.Having):=(cB (aG (aG (aG bK rfl) rfl) rfl))
def CI:eP bw 3 ac (fun x y=>{x with Having:=y}):=bR (aF (aF (aF cP rfl) rfl) rfl) (fun _ _=>rfl)
def ki:jj bw 4 rB (fun x=>x.Grouped):=(cB (aG (aG (aG (aG bK rfl) rfl) rfl) rfl))
def CH:eP bw 4 rB (fun x y=>{x with Grouped:=y}):=bR (aF (aF (aF (aF cP rfl) rfl) rfl) rfl) (fun _ _=>rfl)
def Da:jj bw 5 rB (fun x=>x.Distinct):=(cB (aG (aG (aG (aG (aG bK rfl) rfl) rfl) rfl) rfl))
def CF:eP bw 5 rB (fun x y=>{x with Distinct:=y}):=bR (aF (aF (aF (aF (aF cP rfl) rfl) rfl) rfl) rfl) (fun _ _=>rfl)
def ym:jj bw 6 (eM (rI .i64)) (fun x=>x.Keys):=(cB (aG (aG (aG (aG (aG (aG bK rfl) rfl) rfl) rfl) rfl) rfl))
def CE:eP bw 6 (eM (rI .i64)) (fun x y=>{x with Keys:=y}):=bR (aF (aF (aF (aF (aF (aF cP rfl) rfl) rfl) rfl) rfl) rfl) (fun _ _=>rfl)
def mI:jj bw 7 (eM aT) (fun x=>x.Aggs):=(cB (aG (aG (aG (aG (aG (aG (aG bK rfl) rfl) rfl) rfl) rfl) rfl) rfl))
def CD:eP bw 7 (eM aT) (fun x y=>{x with Aggs:=y}):=bR (aF (aF (aF (aF (aF (aF (aF cP rfl) rfl) rfl) rfl) rfl) rfl) rfl) (fun _ _=>rfl)
def vb:jj bw 8 (eM ac) (fun x=>x.Items):=(aG (aG (aG (aG (aG (aG (aG (aG bK rfl) rfl) rfl) rfl) rfl) rfl) rfl) rfl)
def uV:eP bw 8 (eM ac) (fun x y=>{x with Items:=y}):=bR (aF (aF (aF (aF (aF (aF (aF (aF aj rfl) rfl) rfl) rfl) rfl) rfl) rfl) rfl) (fun _ _=>rfl)
def F1: ∀S,bw.rc S [.slice none 0 0,.slice none 0 0,.slice none 0 0,.slice none 0 0,.bool false,.bool false,.slice none 0 0,.slice none 0 0,.slice none 0 0] ((⟨[],[],(⟨[]⟩:aZ),(⟨[]⟩:aZ),false,false,[],[],[]⟩:bb)):=fun _=>⟨[.slice none 0 0],[.slice none 0 0,.slice none 0 0,.slice none 0 0,.bool false,.bool false,.slice none 0 0,.slice none 0 0,.slice none 0 0],rfl,⟨none,0,rfl,f7 _,jR _,.inl rfl⟩,⟨[.slice none 0 0],[.slice none 0 0,.slice none 0 0,.bool false,.bool false,.slice none 0 0,.slice none 0 0,.slice none 0 0],rfl,⟨none,0,rfl,f7 _,jR _,.inl rfl⟩,⟨[.slice none 0 0],[.slice none 0 0,.bool false,.bool false,.slice none 0 0,.slice none 0 0,.slice none 0 0],rfl,cZ _,⟨[.slice none 0 0],[.bool false,.bool false,.slice none 0 0,.slice none 0 0,.slice none 0 0],rfl,cZ _,⟨[.bool false],[.bool false,.slice none 0 0,.slice none 0 0,.slice none 0 0],rfl,rfl,⟨[.bool false],[.slice none 0 0,.slice none 0 0,.slice none 0 0],rfl,rfl,⟨[.slice none 0 0],[.slice none 0 0,.slice none 0 0],rfl,⟨none,0,rfl,f7 _,jR _,.inl rfl⟩,⟨[.slice none 0 0],[.slice none 0 0],rfl,⟨none,0,rfl,f7 _,jR _,.inl rfl⟩,⟨none,0,rfl,f7 _,jR _,.inl rfl⟩⟩⟩⟩⟩⟩⟩⟩⟩
structure am where
 Catalog:aJ
 from_:aK
 out:bb
 called:(List (cX×Bool))
 alone:(List (cX×(List Int)))
 behind:(List ((cX×cX)×Int))
 kinds:(List Int)
 groups:(List Int)
 at_:Int
 deriving DecidableEq,Inhabited
def aS:Rp am:=kg (cn bG (cn aW (cn bw (cn (Ri:Rp (List (cX×Bool))) (cn (Ri:Rp (List (cX×(List Int)))) (cn (Ri:Rp (List ((cX×cX)×Int))) (cn (eM (rI .i64)) (cn (eM (rI .i64)) (rI .i64))))))))) (fun x=>(x.Catalog,x.from_,x.out,x.called,x.alone,x.behind,x.kinds,x.groups,x.at_))
def BY:jj aS 0 bG (fun x=>x.Catalog):=(cB bK)
def ju:jj aS 1 aW (fun x=>x.from_):=(cB (aG bK rfl))
def iL:jj aS 10 bw (fun x=>x.out):=(cB (aG (aG bK rfl) rfl))
def mO:eP aS 10 bw (fun x y=>{x with out:=y}):=bR (aF (aF cP rfl) rfl) (fun _ _=>rfl)
def Np:eP aS 22 (eM (rI .i64)) (fun x y=>{x with kinds:=y}):=bR (aF (aF (aF (aF (aF (aF cP rfl) rfl) rfl) rfl) rfl) rfl) (fun _ _=>rfl)
def Gk:eP aS 23 (eM (rI .i64)) (fun x y=>{x with groups:=y}):=bR (aF (aF (aF (aF (aF (aF (aF cP rfl) rfl) rfl) rfl) rfl) rfl) rfl) (fun _ _=>rfl)
def Hc:jj aS 24 (rI .i64) (fun x=>x.at_):=(aG (aG (aG (aG (aG (aG (aG (aG bK rfl) rfl) rfl) rfl) rfl) rfl) rfl) rfl)
def sM:eP aS 24 (rI .i64) (fun x y=>{x with at_:=y}):=bR (aF (aF (aF (aF (aF (aF (aF (aF aj rfl) rfl) rfl) rfl) rfl) rfl) rfl) rfl) (fun _ _=>rfl)
structure ze where
 Col:Int
 Desc:Bool
 deriving DecidableEq,Inhabited
def jd:Rp ze:=kg (cn (rI .i64) rB) (fun x=>(x.Col,x.Desc))
def Tn:jj jd 0 (rI .i64) (fun x=>x.Col):=(cB bK)
def Lp:eP jd 0 (rI .i64) (fun x y=>{x with Col:=y}):=bR cP (fun _ _=>rfl)
def Tm:jj jd 1 rB (fun x=>x.Desc):=(aG bK rfl)
def Lo:eP jd 1 rB (fun x y=>{x with Desc:=y}):=bR (aF aj rfl) (fun _ _=>rfl)
def So: ∀S,jd.rc S [.int .i64 0,.bool false] ((⟨(0:Int),false⟩:ze)):=fun _=>⟨[.int .i64 0],[.bool false],rfl,rfl,rfl⟩
structure bz where
 Selects:(List bb)
 Names:(List cX)
 Kinds:(List Int)
 Order:(List ze)
 Limit:Int
 deriving DecidableEq,Inhabited
def cd:Rp bz:=kg (cn (eM bw) (cn (eM rS) (cn (eM (rI .i64)) (cn (eM jd) (rI .i64))))) (fun x=>(x.Selects,x.Names,x.Kinds,x.Order,x.Limit))
def sW:jj cd 0 (eM bw) (fun x=>x.Selects):=(cB bK)
def rf:jj cd 1 (eM rS) (fun x=>x.Names):=(cB (aG bK rfl))
def BZ:jj cd 2 (eM (rI .i64)) (fun x=>x.Kinds):=(cB (aG (aG bK rfl) rfl))
def vW:jj cd 3 (eM jd) (fun x=>x.Order):=(cB (aG (aG (aG bK rfl) rfl) rfl))
def Hf:jj cd 4 (rI .i64) (fun x=>x.Limit):=(aG (aG (aG (aG bK rfl) rfl) rfl) rfl)
def ld: ∀S,cd.rc S [.slice none 0 0,.slice none 0 0,.slice none 0 0,.slice none 0 0,.int .i64 0] ((⟨[],[],[],[],(0:Int)⟩:bz)):=fun _=>⟨[.slice none 0 0],[.slice none 0 0,.slice none 0 0,.slice none 0 0,.int .i64 0],rfl,⟨none,0,rfl,f7 _,jR _,.inl rfl⟩,⟨[.slice none 0 0],[.slice none 0 0,.slice none 0 0,.int .i64 0],rfl,⟨none,0,rfl,f7 _,jR _,.inl rfl⟩,⟨[.slice none 0 0],[.slice none 0 0,.int .i64 0],rfl,⟨none,0,rfl,f7 _,jR _,.inl rfl⟩,⟨[.slice none 0 0],[.int .i64 0],rfl,⟨none,0,rfl,f7 _,jR _,.inl rfl⟩,rfl⟩⟩⟩⟩
structure aB where
 c:aJ
 sources:(List d7)
 out:bb
 deriving DecidableEq,Inhabited
def bv:Rp aB:=kg (cn bG (cn (eM be) bw)) (fun x=>(x.c,x.sources,x.out))
def mG:jj bv 0 bG (fun x=>x.c):=(cB bK)
def Lk:eP bv 0 bG (fun x y=>{x with c:=y}):=bR cP (fun _ _=>rfl)
def Lj:eP bv 1 (eM be) (fun x y=>{x with sources:=y}):=bR (aF cP rfl) (fun _ _=>rfl)
def fP:jj bv 2 bw (fun x=>x.out):=(aG (aG bK rfl) rfl)
def lz:eP bv 2 bw (fun x y=>{x with out:=y}):=bR (aF (aF aj rfl) rfl) (fun _ _=>rfl)
def QM: ∀S,bv.rc S [.slice none 0 0,.slice none 0 0,.slice none 0 0,.slice none 0 0,.slice none 0 0,.slice none 0 0,.bool false,.bool false,.slice none 0 0,.slice none 0 0,.slice none 0 0] ((⟨(⟨[]⟩:aJ),[],(⟨[],[],(⟨[]⟩:aZ),(⟨[]⟩:aZ),false,false,[],[],[]⟩:bb)⟩:aB)):=fun _=>⟨[.slice none 0 0],[.slice none 0 0,.slice none 0 0,.slice none 0 0,.slice none 0 0,.slice none 0 0,.bool false,.bool false,.slice none 0 0,.slice none 0 0,.slice none 0 0],rfl,sI _,⟨[.slice none 0 0],[.slice none 0 0,.slice none 0 0,.slice none 0 0,.slice none 0 0,.bool false,.bool false,.slice none 0 0,.slice none 0 0,.slice none 0 0],rfl,⟨none,0,rfl,f7 _,jR _,.inl rfl⟩,F1 _⟩⟩
structure HM where
 Tables:Value
def jm:Rp HM:=kg rV (fun x=>(x.Tables))
def se:jj jm 0 rV (fun x=>x.Tables):=bK
def Gh:eP jm 0 rV (fun x y=>{x with Tables:=y}):=bR aj (fun _ _=>rfl)
def lw(y:aJ)(v0:Value):HM:=⟨v0⟩
def Cw: ∀S,jm.rc S [.slice none 0 0] (lw ((⟨[]⟩:aJ)) (Y none 0 0)):=fun _=>⟨rfl,rfl⟩
structure MI where
 Selects:Value
 Keys:(List sC)
 Limit:Int
def j3:Rp MI:=kg (cn rV (cn (eM je) (rI .i64))) (fun x=>(x.Selects,x.Keys,x.Limit))
def C9:jj j3 0 rV (fun x=>x.Selects):=(cB bK)
def JR:eP j3 1 (eM je) (fun x y=>{x with Keys:=y}):=bR (aF cP rfl) (fun _ _=>rfl)
def lX(y:ce)(v0:Value):MI:=⟨v0,y.Keys,y.Limit⟩
structure Zu where
 Selects:Value
 Keys:Value
 Limit:Int
structure Dw where
 Selects:Value
 Names:(List cX)
 Kinds:Value
 Order:Value
 Limit:Int
def cV:Rp Dw:=kg (cn rV (cn (eM rS) (cn rV (cn rV (rI .i64))))) (fun x=>(x.Selects,x.Names,x.Kinds,x.Order,x.Limit))
def Ef:jj cV 0 rV (fun x=>x.Selects):=(cB bK)
def Ee:jj cV 1 (eM rS) (fun x=>x.Names):=(cB (aG bK rfl))
def DV:eP cV 1 (eM rS) (fun x y=>{x with Names:=y}):=bR (aF cP rfl) (fun _ _=>rfl)
def Ed:jj cV 2 rV (fun x=>x.Kinds):=(cB (aG (aG bK rfl) rfl))
def Ec:jj cV 3 rV (fun x=>x.Order):=(cB (aG (aG (aG bK rfl) rfl) rfl))
def DU:eP cV 4 (rI .i64) (fun x y=>{x with Limit:=y}):=bR (aF (aF (aF (aF aj rfl) rfl) rfl) rfl) (fun _ _=>rfl)
def dV(y:bz)(v0:Value)(v2:Value)(v3:Value):Dw:=⟨v0,y.Names,v2,v3,y.Limit⟩
def zi: ∀S,cV.rc S [.slice none 0 0,.slice none 0 0,.slice none 0 0,.slice none 0 0,.int .i64 0] (dV ((⟨[],[],[],[],(0:Int)⟩:bz)) (Y none 0 0) (Y none 0 0) (Y none 0 0)):=fun _=>⟨[.slice none 0 0],[.slice none 0 0,.slice none 0 0,.slice none 0 0,.int .i64 0],rfl,⟨rfl,rfl⟩,⟨[.slice none 0 0],[.slice none 0 0,.slice none 0 0,.int .i64 0],rfl,⟨none,0,rfl,f7 _,jR _,.inl rfl⟩,⟨[.slice none 0 0],[.slice none 0 0,.int .i64 0],rfl,⟨rfl,rfl⟩,⟨[.slice none 0 0],[.int .i64 0],rfl,⟨rfl,rfl⟩,rfl⟩⟩⟩⟩
structure HN where
 Selects:Value
 Names:(List cX)
 Kinds:(List Int)
 Order:Value
 Limit:Int
def dB:Rp HN:=kg (cn rV (cn (eM rS) (cn (eM (rI .i64)) (cn rV (rI .i64))))) (fun x=>(x.Selects,x.Names,x.Kinds,x.Order,x.Limit))
def Hb:jj dB 0 rV (fun x=>x.Selects):=(cB bK)
def Ha:jj dB 1 (eM rS) (fun x=>x.Names):=(cB (aG bK rfl))
def Gj:eP dB 1 (eM rS) (fun x y=>{x with Names:=y}):=bR (aF cP rfl) (fun _ _=>rfl)
def G9:jj dB 2 (eM (rI .i64)) (fun x=>x.Kinds):=(cB (aG (aG bK rfl) rfl))
def zx:eP dB 2 (eM (rI .i64)) (fun x y=>{x with Kinds:=y}):=bR (aF (aF cP rfl) rfl) (fun _ _=>rfl)
def G8:jj dB 3 rV (fun x=>x.Order):=(cB (aG (aG (aG bK rfl) rfl) rfl))
def Gi:eP dB 4 (rI .i64) (fun x y=>{x with Limit:=y}):=bR (aF (aF (aF (aF aj rfl) rfl) rfl) rfl) (fun _ _=>rfl)
def fy(y:bz)(v0:Value)(v3:Value):HN:=⟨v0,y.Names,y.Kinds,v3,y.Limit⟩
def Cx: ∀S,dB.rc S [.slice none 0 0,.slice none 0 0,.slice none 0 0,.slice none 0 0,.int .i64 0] (fy ((⟨[],[],[],[],(0:Int)⟩:bz)) (Y none 0 0) (Y none 0 0)):=fun _=>⟨[.slice none 0 0],[.slice none 0 0,.slice none 0 0,.slice none 0 0,.int .i64 0],rfl,⟨rfl,rfl⟩,⟨[.slice none 0 0],[.slice none 0 0,.slice none 0 0,.int .i64 0],rfl,⟨none,0,rfl,f7 _,jR _,.inl rfl⟩,⟨[.slice none 0 0],[.slice none 0 0,.int .i64 0],rfl,⟨none,0,rfl,f7 _,jR _,.inl rfl⟩,⟨[.slice none 0 0],[.int .i64 0],rfl,⟨rfl,rfl⟩,rfl⟩⟩⟩⟩
structure QC where
 Nodes:Value
def mj:Rp QC:=kg rV (fun x=>(x.Nodes))
def ER:jj mj 0 rV (fun x=>x.Nodes):=bK
def Li:eP mj 0 rV (fun x y=>{x with Nodes:=y}):=bR aj (fun _ _=>rfl)
def oK(y:db)(v0:Value):QC:=⟨v0⟩
def IC: ∀S,mj.rc S [.slice none 0 0] (oK ((⟨[]⟩:db)) (Y none 0 0)):=fun _=>⟨rfl,rfl⟩
structure Jv where
 Distinct:Bool
 Star:Bool
 Items:Value
 From:d7
 Joins:(List mZ)
 Where:db
 Having:db
 Group:(List jY)
def EL:Rp Jv:=kg (cn rB (cn rB (cn rV (cn be (cn (eM dC) (cn bD (cn bD (eM fI)))))))) (fun x=>(x.Distinct,x.Star,x.Items,x.From,x.Joins,x.Where,x.Having,x.Group))
def EP(y:aK)(v2:Value):Jv:=⟨y.Distinct,y.Star,v2,y.From,y.Joins,y.Where,y.Having,y.Group⟩
structure EY where
 Distinct:Bool
 Star:Bool
 Items:Value
 From:d7
 Joins:Value
 Where:db
 Having:db
 Group:(List jY)
def eo:Rp EY:=kg (cn rB (cn rB (cn rV (cn be (cn rV (cn bD (cn bD (eM fI)))))))) (fun x=>(x.Distinct,x.Star,x.Items,x.From,x.Joins,x.Where,x.Having,x.Group))
def yT:jj eo 2 rV (fun x=>x.Items):=(cB (aG (aG bK rfl) rfl))
def yS:jj eo 5 rV (fun x=>x.Joins):=(cB (aG (aG (aG (aG bK rfl) rfl) rfl) rfl))
def Fh:jj eo 6 bD (fun x=>x.Where):=(cB (aG (aG (aG (aG (aG bK rfl) rfl) rfl) rfl) rfl))
def E8:eP eo 6 bD (fun x y=>{x with Where:=y}):=bR (aF (aF (aF (aF (aF cP rfl) rfl) rfl) rfl) rfl) (fun _ _=>rfl)
def Fg:jj eo 7 bD (fun x=>x.Having):=(cB (aG (aG (aG (aG (aG (aG bK rfl) rfl) rfl) rfl) rfl) rfl))
def E7:eP eo 7 bD (fun x y=>{x with Having:=y}):=bR (aF (aF (aF (aF (aF (aF cP rfl) rfl) rfl) rfl) rfl) rfl) (fun _ _=>rfl)
def E6:eP eo 8 (eM fI) (fun x y=>{x with Group:=y}):=bR (aF (aF (aF (aF (aF (aF (aF aj rfl) rfl) rfl) rfl) rfl) rfl) rfl) (fun _ _=>rfl)
def iA(y:aK)(v2:Value)(v4:Value):EY:=⟨y.Distinct,y.Star,v2,y.From,v4,y.Where,y.Having,y.Group⟩
def HY: ∀S,eo.rc S [.bool false,.bool false,.slice none 0 0,.string ⟨#[]⟩,.string ⟨#[]⟩,.slice none 0 0,.slice none 0 0,.slice none 0 0,.slice none 0 0] (iA ((⟨false,false,[],(⟨[],[]⟩:d7),[],(⟨[]⟩:db),(⟨[]⟩:db),[]⟩:aK)) (Y none 0 0) (Y none 0 0)):=fun _=>⟨[.bool false],[.bool false,.slice none 0 0,.string ⟨#[]⟩,.string ⟨#[]⟩,.slice none 0 0,.slice none 0 0,.slice none 0 0,.slice none 0 0],rfl,rfl,⟨[.bool false],[.slice none 0 0,.string ⟨#[]⟩,.string ⟨#[]⟩,.slice none 0 0,.slice none 0 0,.slice none 0 0,.slice none 0 0],rfl,rfl,⟨[.slice none 0 0],[.string ⟨#[]⟩,.string ⟨#[]⟩,.slice none 0 0,.slice none 0 0,.slice none 0 0,.slice none 0 0],rfl,⟨rfl,rfl⟩,⟨[.string ⟨#[]⟩,.string ⟨#[]⟩],[.slice none 0 0,.slice none 0 0,.slice none 0 0,.slice none 0 0],rfl,vl _,⟨[.slice none 0 0],[.slice none 0 0,.slice none 0 0,.slice none 0 0],rfl,⟨rfl,rfl⟩,⟨[.slice none 0 0],[.slice none 0 0,.slice none 0 0],rfl,uO _,⟨[.slice none 0 0],[.slice none 0 0],rfl,uO _,⟨none,0,rfl,f7 _,jR _,.inl rfl⟩⟩⟩⟩⟩⟩⟩⟩
structure QD where
 Nodes:Value
def oF:Rp QD:=kg rV (fun x=>(x.Nodes))
def uc:jj oF 0 rV (fun x=>x.Nodes):=bK
def p4(y:aZ)(v0:Value):QD:=⟨v0⟩
def QL: ∀S,oF.rc S [.slice none 0 0] (p4 ((⟨[]⟩:aZ)) (Y none 0 0)):=fun _=>⟨rfl,rfl⟩
structure Dv where
 Catalog:aJ
 from_:aK
 out:bb
 called:Value
 alone:Value
 behind:Value
 kinds:(List Int)
 groups:(List Int)
 at_:Int
def f9:Rp Dv:=kg (cn bG (cn aW (cn bw (cn rV (cn rV (cn rV (cn (eM (rI .i64)) (cn (eM (rI .i64)) (rI .i64))))))))) (fun x=>(x.Catalog,x.from_,x.out,x.called,x.alone,x.behind,x.kinds,x.groups,x.at_))
def DQ:eP f9 0 bG (fun x y=>{x with Catalog:=y}):=bR cP (fun _ _=>rfl)
def DP:eP f9 1 aW (fun x y=>{x with from_:=y}):=bR (aF cP rfl) (fun _ _=>rfl)
def Eb:jj f9 19 rV (fun x=>x.called):=(cB (aG (aG (aG bK rfl) rfl) rfl))
def DO:eP f9 19 rV (fun x y=>{x with called:=y}):=bR (aF (aF (aF cP rfl) rfl) rfl) (fun _ _=>rfl)
def Ea:jj f9 20 rV (fun x=>x.alone):=(cB (aG (aG (aG (aG bK rfl) rfl) rfl) rfl))
def DN:eP f9 20 rV (fun x y=>{x with alone:=y}):=bR (aF (aF (aF (aF cP rfl) rfl) rfl) rfl) (fun _ _=>rfl)
def D9:jj f9 21 rV (fun x=>x.behind):=(cB (aG (aG (aG (aG (aG bK rfl) rfl) rfl) rfl) rfl))
def DM:eP f9 21 rV (fun x y=>{x with behind:=y}):=bR (aF (aF (aF (aF (aF cP rfl) rfl) rfl) rfl) rfl) (fun _ _=>rfl)
def sb(y:am)(v3:Value)(v4:Value)(v5:Value):Dv:=⟨y.Catalog,y.from_,y.out,v3,v4,v5,y.kinds,y.groups,y.at_⟩
def FZ: ∀S,f9.rc S [.slice none 0 0,.bool false,.bool false,.slice none 0 0,.string ⟨#[]⟩,.string ⟨#[]⟩,.slice none 0 0,.slice none 0 0,.slice none 0 0,.slice none 0 0,.slice none 0 0,.slice none 0 0,.slice none 0 0,.slice none 0 0,.bool false,.bool false,.slice none 0 0,.slice none 0 0,.slice none 0 0,.map none,.map none,.map none,.slice none 0 0,.slice none 0 0,.int .i64 0] (sb ((⟨(⟨[]⟩:aJ),(⟨false,false,[],(⟨[],[]⟩:d7),[],(⟨[]⟩:db),(⟨[]⟩:db),[]⟩:aK),(⟨[],[],(⟨[]⟩:aZ),(⟨[]⟩:aZ),false,false,[],[],[]⟩:bb),[],[],[],[],[],(0:Int)⟩:am)) (.map none) (.map none) (.map none)):=fun _=>⟨[.slice none 0 0],[.bool false,.bool false,.slice none 0 0,.string ⟨#[]⟩,.string ⟨#[]⟩,.slice none 0 0,.slice none 0 0,.slice none 0 0,.slice none 0 0,.slice none 0 0,.slice none 0 0,.slice none 0 0,.slice none 0 0,.bool false,.bool false,.slice none 0 0,.slice none 0 0,.slice none 0 0,.map none,.map none,.map none,.slice none 0 0,.slice none 0 0,.int .i64 0],rfl,sI _,⟨[.bool false,.bool false,.slice none 0 0,.string ⟨#[]⟩,.string ⟨#[]⟩,.slice none 0 0,.slice none 0 0,.slice none 0 0,.slice none 0 0],[.slice none 0 0,.slice none 0 0,.slice none 0 0,.slice none 0 0,.bool false,.bool false,.slice none 0 0,.slice none 0 0,.slice none 0 0,.map none,.map none,.map none,.slice none 0 0,.slice none 0 0,.int .i64 0],rfl,xn _,⟨[.slice none 0 0,.slice none 0 0,.slice none 0 0,.slice none 0 0,.bool false,.bool false,.slice none 0 0,.slice none 0 0,.slice none 0 0],[.map none,.map none,.map none,.slice none 0 0,.slice none 0 0,.int .i64 0],rfl,F1 _,⟨[.map none],[.map none,.map none,.slice none 0 0,.slice none 0 0,.int .i64 0],rfl,⟨rfl,rfl⟩,⟨[.map none],[.map none,.slice none 0 0,.slice none 0 0,.int .i64 0],rfl,⟨rfl,rfl⟩,⟨[.map none],[.slice none 0 0,.slice none 0 0,.int .i64 0],rfl,⟨rfl,rfl⟩,⟨[.slice none 0 0],[.slice none 0 0,.int .i64 0],rfl,⟨none,0,rfl,f7 _,jR _,.inl rfl⟩,⟨[.slice none 0 0],[.int .i64 0],rfl,⟨none,0,rfl,f7 _,jR _,.inl rfl⟩,rfl⟩⟩⟩⟩⟩⟩⟩⟩
def Dj{S:SH}{cs:List Value}{y:aJ}{v0:Value}{xs0:(List bU)}(k0:(eM cv).rc S [v0] xs0)(h:jm.rc S cs (lw y v0)):bG.rc S cs ((⟨xs0⟩:aJ)):=by
 have h0:=h
 exact(by rw [h0.1];exact k0)
def Fj{S:SH}{cs:List Value}{y:ce}{v0:Value}{xs0:(List aK)}(k0:(eM aW).rc S [v0] xs0)(h:j3.rc S cs (lX y v0)):cw.rc S cs ((⟨xs0,y.Keys,y.Limit⟩:ce)):=by
 obtain⟨a0,b0,e0,h0,a1,b1,e1,H,J⟩:=h
 exact⟨a0,b0,e0,(by rw [h0.1];exact k0),a1,b1,e1,H,J⟩
def AX{S:SH}{cs:List Value}{y:bz}{v0:Value}{v2:Value}{v3:Value}{xs0:(List bb)}(k0:(eM bw).rc S [v0] xs0){xs2:(List Int)}(k2:(eM (rI .i64)).rc S [v2] xs2){xs3:(List ze)}(k3:(eM jd).rc S [v3] xs3)(h:cV.rc S cs (dV y v0 v2 v3)):cd.rc S cs ((⟨xs0,y.Names,xs2,xs3,y.Limit⟩:bz)):=by
 obtain⟨a0,b0,e0,h0,a1,b1,e1,H,a2,b2,e2,J,a3,b3,e3,h3,h4⟩:=h
 exact⟨a0,b0,e0,(by rw [h0.1];exact k0),a1,b1,e1,H,a2,b2,e2,(by rw [J.1];exact k2),a3,b3,e3,(by rw [h3.1];exact k3),h4⟩
def Dk{S:SH}{cs:List Value}{y:bz}{v0:Value}{v3:Value}{xs0:(List bb)}(k0:(eM bw).rc S [v0] xs0){xs3:(List ze)}(k3:(eM jd).rc S [v3] xs3)(h:dB.rc S cs (fy y v0 v3)):cd.rc S cs ((⟨xs0,y.Names,y.Kinds,xs3,y.Limit⟩:bz)):=by
 obtain⟨a0,b0,e0,h0,a1,b1,e1,H,a2,b2,e2,J,a3,b3,e3,h3,h4⟩:=h
 exact⟨a0,b0,e0,(by rw [h0.1];exact k0),a1,b1,e1,H,a2,b2,e2,J,a3,b3,e3,(by rw [h3.1];exact k3),h4⟩
def Hr{S:SH}{cs:List Value}{y:db}{v0:Value}{xs0:(List dj)}(k0:(eM dd).rc S [v0] xs0)(h:mj.rc S cs (oK y v0)):bD.rc S cs ((⟨xs0⟩:db)):=by
 have h0:=h
 exact(by rw [h0.1];exact k0)
def Cc{S:SH}{cs:List Value}{y:aK}{v2:Value}{v4:Value}{xs2:(List fK)}(k2:(eM d5).rc S [v2] xs2){xs4:(List mZ)}(k4:(eM dC).rc S [v4] xs4)(h:eo.rc S cs (iA y v2 v4)):aW.rc S cs ((⟨y.Distinct,y.Star,xs2,y.From,xs4,y.Where,y.Having,y.Group⟩:aK)):=by
 obtain⟨a0,b0,e0,h0,a1,b1,e1,H,a2,b2,e2,J,a3,b3,e3,h3,a4,b4,e4,h4,a5,b5,e5,h5,a6,b6,e6,h6,h7⟩:=h
 exact⟨a0,b0,e0,h0,a1,b1,e1,H,a2,b2,e2,(by rw [J.1];exact k2),a3,b3,e3,h3,a4,b4,e4,(by rw [h4.1];exact k4),a5,b5,e5,h5,a6,b6,e6,h6,h7⟩
def Hs{S:SH}{cs:List Value}{y:aZ}{v0:Value}{xs0:(List aD)}(k0:(eM bt).rc S [v0] xs0)(h:oF.rc S cs (p4 y v0)):ac.rc S cs ((⟨xs0⟩:aZ)):=by
 have h0:=h
 exact(by rw [h0.1];exact k0)
def AW{S:SH}{cs:List Value}{y:am}{v3:Value}{v4:Value}{v5:Value}{xs3:(List (cX×Bool))}(k3:(Ri:Rp (List (cX×Bool))).rc S [v3] xs3){xs4:(List (cX×(List Int)))}(k4:(Ri:Rp (List (cX×(List Int)))).rc S [v4] xs4){xs5:(List ((cX×cX)×Int))}(k5:(Ri:Rp (List ((cX×cX)×Int))).rc S [v5] xs5)(h:f9.rc S cs (sb y v3 v4 v5)):aS.rc S cs ((⟨y.Catalog,y.from_,y.out,xs3,xs4,xs5,y.kinds,y.groups,y.at_⟩:am)):=by
 obtain⟨a0,b0,e0,h0,a1,b1,e1,H,a2,b2,e2,J,a3,b3,e3,h3,a4,b4,e4,h4,a5,b5,e5,h5,a6,b6,e6,h6,a7,b7,e7,h7,h8⟩:=h
 exact⟨a0,b0,e0,h0,a1,b1,e1,H,a2,b2,e2,J,a3,b3,e3,(by rw [h3.1];exact k3),a4,b4,e4,(by rw [h4.1];exact k4),a5,b5,e5,(by rw [h5.1];exact k5),a6,b6,e6,h6,a7,b7,e7,h7,h8⟩
def BG(y:ce)(v:Value):rx cw j3 0 rV (y) v (lX y v):=uU (wp (gT rfl) rfl) rfl
def ux(y:bz)(v2:Value)(v3:Value)(u:Value)(v:Value):rx cV cV 0 rV (dV y u v2 v3) v (dV y v v2 v3):=uU (wp (gT rfl) rfl) rfl
def uw(y:bz)(v0:Value)(v3:Value)(u:Value)(v:Value):rx cV cV 2 rV (dV y v0 u v3) v (dV y v0 v v3):=uU (oW (oW (wp (gT rfl) rfl) rfl) rfl) rfl
def uv(y:bz)(v0:Value)(v2:Value)(u:Value)(v:Value):rx cV cV 3 rV (dV y v0 v2 u) v (dV y v0 v2 v):=uU (oW (oW (oW (wp (gT rfl) rfl) rfl) rfl) rfl) rfl
def xb(y:bz)(v3:Value)(u:Value)(v:Value):rx dB dB 0 rV (fy y u v3) v (fy y v v3):=uU (wp (gT rfl) rfl) rfl
def xa(y:bz)(v0:Value)(u:Value)(v:Value):rx dB dB 3 rV (fy y v0 u) v (fy y v0 v):=uU (oW (oW (oW (wp (gT rfl) rfl) rfl) rfl) rfl) rfl
def AU(y:aK)(v:Value):rx aW EL 2 rV (y) v (EP y v):=uU (oW (oW (wp (gT rfl) rfl) rfl) rfl) rfl
def xr(y:aK)(v2:Value)(v:Value):rx EL eo 5 rV (EP y v2) v (iA y v2 v):=uU (oW (oW (oW (oW (wp (gT rfl) rfl) rfl) rfl) rfl) rfl) rfl
def uJ(y:aZ)(u:Value)(v:Value):rx oF oF 0 rV (p4 y u) v (p4 y v):=uU (gT rfl) rfl
def dq(b:Nat)(x:am)(i:OI):List OE:=[bx (rH aS [(10,Y (i.h 0).1 (i.h 0).2 x.out.Tables.length),(11,Y (i.h 1).1 (i.h 1).2 x.out.Joins.length),(16,Y (i.h 2).1 (i.h 2).2 x.out.Keys.length),(17,Y (i.h 3).1 (i.h 3).2 x.out.Aggs.length),(18,Y (i.h 4).1 (i.h 4).2 x.out.Items.length),(22,Y (i.h 5).1 (i.h 5).2 x.kinds.length),(23,Y (i.h 6).1 (i.h 6).2 x.groups.length),(19,aH (i.h 7).2),(20,aH (i.h 8).2),(21,aH (i.h 9).2)]) 127 b x,K (rI .i64) 3 (i.h 0).1 (i.h 0).2 x.out.Tables,K av 71 (i.h 1).1 (i.h 1).2 x.out.Joins,K (rI .i64) 3 (i.h 2).1 (i.h 2).2 x.out.Keys,K aT 73 (i.h 3).1 (i.h 3).2 x.out.Aggs,K ac 62 (i.h 4).1 (i.h 4).2 x.out.Items,K (rI .i64) 3 (i.h 5).1 (i.h 5).2 x.kinds,K (rI .i64) 3 (i.h 6).1 (i.h 6).2 x.groups,ci (J1 (fun y:Bool=>Z rB y)) ew (i.h 7).2 none (i.oss 0) x.called,ci (Xd (rI .i64) 3) ew (i.h 8).2 none (i.oss 1) x.alone,eO (fun y:Int=>Z (rI .i64) y) lc (i.h 9).2 x.behind]
def kw(b:Nat)(x:aB)(i:OI):List OE:=[bx (rH bv [(1,Y (i.h 0).1 (i.h 0).2 x.sources.length),(2,Y (i.h 1).1 (i.h 1).2 x.out.Tables.length),(3,Y (i.h 2).1 (i.h 2).2 x.out.Joins.length),(8,Y (i.h 3).1 (i.h 3).2 x.out.Keys.length),(9,Y (i.h 4).1 (i.h 4).2 x.out.Aggs.length),(10,Y (i.h 5).1 (i.h 5).2 x.out.Items.length)]) 137 b x,K be 48 (i.h 0).1 (i.h 0).2 x.sources,K (rI .i64) 3 (i.h 1).1 (i.h 1).2 x.out.Tables,K av 71 (i.h 2).1 (i.h 2).2 x.out.Joins,K (rI .i64) 3 (i.h 3).1 (i.h 3).2 x.out.Keys,K aT 73 (i.h 4).1 (i.h 4).2 x.out.Aggs,K ac 62 (i.h 5).1 (i.h 5).2 x.out.Items]
def Z8{h1:HL}{y:am}{v3 v4 v5:Value}{S:SH}{u:Value}(h:(Z (rH f9 h1) (sb y v3 v4 v5)).p S u)(k3:v3.oneCell' =true)(k4:v4.oneCell' =true)(k5:v5.oneCell' =true):(Z (rH aS (h1++[(19,v3),(20,v4),(21,v5)])) (⟨y.Catalog,y.from_,y.out,[],[],[],y.kinds,y.groups,y.at_⟩:am)).p S u:=by
 obtain⟨cs,e,H,J⟩:=h
 refine⟨cs,e,AW ⟨_,rfl,k3⟩ ⟨_,rfl,k4⟩ ⟨_,rfl,k5⟩ H,fun p hp=>?_⟩
 rcases Bv.1 hp with hp|hp
 ·exact J p hp
 ·simp only [gn,List.not_mem_nil,or_false]at hp
  rcases hp with rfl|rfl|rfl
  ·have h3:=Tl Eb H
   exact h3
  ·have h3:=Tl Ea H
   exact h3
  ·have h3:=Tl D9 H
   exact h3
def Yn:(List Jw):=[(⟨[98,111,111,108],(1:Int)⟩:Jw),(⟨[105,110,116],(2:Int)⟩:Jw),(⟨[116,101,120,116],(3:Int)⟩:Jw)]
def gm0:((0:Nat),([.string ⟨([98,111,111,108]:List UInt8).toArray⟩,.int .i64 (1),.string ⟨([105,110,116]:List UInt8).toArray⟩,.int .i64 (2),.string ⟨([116,101,120,116]:List UInt8).toArray⟩,.int .i64 (3)]:List Value))∈glob:=by simp [glob]
def gr0: ∀S,(qD Al 3).rc S ([.string ⟨([98,111,111,108]:List UInt8).toArray⟩,.int .i64 (1),.string ⟨([105,110,116]:List UInt8).toArray⟩,.int .i64 (2),.string ⟨([116,101,120,116]:List UInt8).toArray⟩,.int .i64 (3)]:List Value) Yn:=fun _=>⟨rfl,⟨[.string ⟨([98,111,111,108]:List UInt8).toArray⟩,.int .i64 (1)],[.string ⟨([105,110,116]:List UInt8).toArray⟩,.int .i64 (2),.string ⟨([116,101,120,116]:List UInt8).toArray⟩,.int .i64 (3)],rfl,⟨[.string ⟨([98,111,111,108]:List UInt8).toArray⟩],[.int .i64 (1)],rfl,rfl,rfl⟩,⟨[.string ⟨([105,110,116]:List UInt8).toArray⟩,.int .i64 (2)],[.string ⟨([116,101,120,116]:List UInt8).toArray⟩,.int .i64 (3)],rfl,⟨[.string ⟨([105,110,116]:List UInt8).toArray⟩],[.int .i64 (2)],rfl,rfl,rfl⟩,⟨[.string ⟨([116,101,120,116]:List UInt8).toArray⟩,.int .i64 (3)],[],rfl,⟨[.string ⟨([116,101,120,116]:List UInt8).toArray⟩],[.int .i64 (3)],rfl,rfl,rfl⟩,(rfl:_=[])⟩⟩⟩⟩
def Ym:(List cX):=[[83,69,76,69,67,84],[68,73,83,84,73,78,67,84],[70,82,79,77],[76,69,70,84],[74,79,73,78],[79,78],[87,72,69,82,69],[71,82,79,85,80],[66,89],[72,65,86,73,78,71],[85,78,73,79,78],[65,76,76],[79,82,68,69,82],[76,73,77,73,84],[65,83,67],[68,69,83,67],[65,83],[65,78,68],[79,82],[78,79,84],[73,83],[78,85,76,76],[84,82,85,69],[70,65,76,83,69],[67,79,85,78,84],[83,85,77],[77,73,78],[77,65,88]]
def gm1:((1:Nat),([.string ⟨([83,69,76,69,67,84]:List UInt8).toArray⟩,.string ⟨([68,73,83,84,73,78,67,84]:List UInt8).toArray⟩,.string ⟨([70,82,79,77]:List UInt8).toArray⟩,.string ⟨([76,69,70,84]:List UInt8).toArray⟩,.string ⟨([74,79,73,78]:List UInt8).toArray⟩,.string ⟨([79,78]:List UInt8).toArray⟩,.string ⟨([87,72,69,82,69]:List UInt8).toArray⟩,.string ⟨([71,82,79,85,80]:List UInt8).toArray⟩,.string ⟨([66,89]:List UInt8).toArray⟩,.string ⟨([72,65,86,73,78,71]:List UInt8).toArray⟩,.string ⟨([85,78,73,79,78]:List UInt8).toArray⟩,.string ⟨([65,76,76]:List UInt8).toArray⟩,.string ⟨([79,82,68,69,82]:List UInt8).toArray⟩,.string ⟨([76,73,77,73,84]:List UInt8).toArray⟩,.string ⟨([65,83,67]:List UInt8).toArray⟩,.string ⟨([68,69,83,67]:List UInt8).toArray⟩,.string ⟨([65,83]:List UInt8).toArray⟩,.string ⟨([65,78,68]:List UInt8).toArray⟩,.string ⟨([79,82]:List UInt8).toArray⟩,.string ⟨([78,79,84]:List UInt8).toArray⟩,.string ⟨([73,83]:List UInt8).toArray⟩,.string ⟨([78,85,76,76]:List UInt8).toArray⟩,.string ⟨([84,82,85,69]:List UInt8).toArray⟩,.string ⟨([70,65,76,83,69]:List UInt8).toArray⟩,.string ⟨([67,79,85,78,84]:List UInt8).toArray⟩,.string ⟨([83,85,77]:List UInt8).toArray⟩,.string ⟨([77,73,78]:List UInt8).toArray⟩,.string ⟨([77,65,88]:List UInt8).toArray⟩]:List Value))∈glob:=by simp [glob]
def gr1: ∀S,(qD rS 28).rc S ([.string ⟨([83,69,76,69,67,84]:List UInt8).toArray⟩,.string ⟨([68,73,83,84,73,78,67,84]:List UInt8).toArray⟩,.string ⟨([70,82,79,77]:List UInt8).toArray⟩,.string ⟨([76,69,70,84]:List UInt8).toArray⟩,.string ⟨([74,79,73,78]:List UInt8).toArray⟩,.string ⟨([79,78]:List UInt8).toArray⟩,.string ⟨([87,72,69,82,69]:List UInt8).toArray⟩,.string ⟨([71,82,79,85,80]:List UInt8).toArray⟩,.string ⟨([66,89]:List UInt8).toArray⟩,.string ⟨([72,65,86,73,78,71]:List UInt8).toArray⟩,.string ⟨([85,78,73,79,78]:List UInt8).toArray⟩,.string ⟨([65,76,76]:List UInt8).toArray⟩,.string ⟨([79,82,68,69,82]:List UInt8).toArray⟩,.string ⟨([76,73,77,73,84]:List UInt8).toArray⟩,.string ⟨([65,83,67]:List UInt8).toArray⟩,.string ⟨([68,69,83,67]:List UInt8).toArray⟩,.string ⟨([65,83]:List UInt8).toArray⟩,.string ⟨([65,78,68]:List UInt8).toArray⟩,.string ⟨([79,82]:List UInt8).toArray⟩,.string ⟨([78,79,84]:List UInt8).toArray⟩,.string ⟨([73,83]:List UInt8).toArray⟩,.string ⟨([78,85,76,76]:List UInt8).toArray⟩,.string ⟨([84,82,85,69]:List UInt8).toArray⟩,.string ⟨([70,65,76,83,69]:List UInt8).toArray⟩,.string ⟨([67,79,85,78,84]:List UInt8).toArray⟩,.string ⟨([83,85,77]:List UInt8).toArray⟩,.string ⟨([77,73,78]:List UInt8).toArray⟩,.string ⟨([77,65,88]:List UInt8).toArray⟩]:List Value) Ym:=fun _=>⟨rfl,⟨[.string ⟨([83,69,76,69,67,84]:List UInt8).toArray⟩],[.string ⟨([68,73,83,84,73,78,67,84]:List UInt8).toArray⟩,.string ⟨([70,82,79,77]:List UInt8).toArray⟩,.string ⟨([76,69,70,84]:List UInt8).toArray⟩,.string ⟨([74,79,73,78]:List UInt8).toArray⟩,.string ⟨([79,78]:List UInt8).toArray⟩,.string ⟨([87,72,69,82,69]:List UInt8).toArray⟩,.string ⟨([71,82,79,85,80]:List UInt8).toArray⟩,.string ⟨([66,89]:List UInt8).toArray⟩,.string ⟨([72,65,86,73,78,71]:List UInt8).toArray⟩,.string ⟨([85,78,73,79,78]:List UInt8).toArray⟩,.string ⟨([65,76,76]:List UInt8).toArray⟩,.string ⟨([79,82,68,69,82]:List UInt8).toArray⟩,.string ⟨([76,73,77,73,84]:List UInt8).toArray⟩,.string ⟨([65,83,67]:List UInt8).toArray⟩,.string ⟨([68,69,83,67]:List UInt8).toArray⟩,.string ⟨([65,83]:List UInt8).toArray⟩,.string ⟨([65,78,68]:List UInt8).toArray⟩,.string ⟨([79,82]:List UInt8).toArray⟩,.string ⟨([78,79,84]:List UInt8).toArray⟩,.string ⟨([73,83]:List UInt8).toArray⟩,.string ⟨([78,85,76,76]:List UInt8).toArray⟩,.string ⟨([84,82,85,69]:List UInt8).toArray⟩,.string ⟨([70,65,76,83,69]:List UInt8).toArray⟩,.string ⟨([67,79,85,78,84]:List UInt8).toArray⟩,.string ⟨([83,85,77]:List UInt8).toArray⟩,.string ⟨([77,73,78]:List UInt8).toArray⟩,.string ⟨([77,65,88]:List UInt8).toArray⟩],rfl,rfl,⟨[.string ⟨([68,73,83,84,73,78,67,84]:List UInt8).toArray⟩],[.string ⟨([70,82,79,77]:List UInt8).toArray⟩,.string ⟨([76,69,70,84]:List UInt8).toArray⟩,.string ⟨([74,79,73,78]:List UInt8).toArray⟩,.string ⟨([79,78]:List UInt8).toArray⟩,.string ⟨([87,72,69,82,69]:List UInt8).toArray⟩,.string ⟨([71,82,79,85,80]:List UInt8).toArray⟩,.string ⟨([66,89]:List UInt8).toArray⟩,.string ⟨([72,65,86,73,78,71]:List UInt8).toArray⟩,.string ⟨([85,78,73,79,78]:List UInt8).toArray⟩,.string ⟨([65,76,76]:List UInt8).toArray⟩,.string ⟨([79,82,68,69,82]:List UInt8).toArray⟩,.string ⟨([76,73,77,73,84]:List UInt8).toArray⟩,.string ⟨([65,83,67]:List UInt8).toArray⟩,.string ⟨([68,69,83,67]:List UInt8).toArray⟩,.string ⟨([65,83]:List UInt8).toArray⟩,.string ⟨([65,78,68]:List UInt8).toArray⟩,.string ⟨([79,82]:List UInt8).toArray⟩,.string ⟨([78,79,84]:List UInt8).toArray⟩,.string ⟨([73,83]:List UInt8).toArray⟩,.string ⟨([78,85,76,76]:List UInt8).toArray⟩,.string ⟨([84,82,85,69]:List UInt8).toArray⟩,.string ⟨([70,65,76,83,69]:List UInt8).toArray⟩,.string ⟨([67,79,85,78,84]:List UInt8).toArray⟩,.string ⟨([83,85,77]:List UInt8).toArray⟩,.string ⟨([77,73,78]:List UInt8).toArray⟩,.string ⟨([77,65,88]:List UInt8).toArray⟩],rfl,rfl,⟨[.string ⟨([70,82,79,77]:List UInt8).toArray⟩],[.string ⟨([76,69,70,84]:List UInt8).toArray⟩,.string ⟨([74,79,73,78]:List UInt8).toArray⟩,.string ⟨([79,78]:List UInt8).toArray⟩,.string ⟨([87,72,69,82,69]:List UInt8).toArray⟩,.string ⟨([71,82,79,85,80]:List UInt8).toArray⟩,.string ⟨([66,89]:List UInt8).toArray⟩,.string ⟨([72,65,86,73,78,71]:List UInt8).toArray⟩,.string ⟨([85,78,73,79,78]:List UInt8).toArray⟩,.string ⟨([65,76,76]:List UInt8).toArray⟩,.string ⟨([79,82,68,69,82]:List UInt8).toArray⟩,.string ⟨([76,73,77,73,84]:List UInt8).toArray⟩,.string ⟨([65,83,67]:List UInt8).toArray⟩,.string ⟨([68,69,83,67]:List UInt8).toArray⟩,.string ⟨([65,83]:List UInt8).toArray⟩,.string ⟨([65,78,68]:List UInt8).toArray⟩,.string ⟨([79,82]:List UInt8).toArray⟩,.string ⟨([78,79,84]:List UInt8).toArray⟩,.string ⟨([73,83]:List UInt8).toArray⟩,.string ⟨([78,85,76,76]:List UInt8).toArray⟩,.string ⟨([84,82,85,69]:List UInt8).toArray⟩,.string ⟨([70,65,76,83,69]:List UInt8).toArray⟩,.string ⟨([67,79,85,78,84]:List UInt8).toArray⟩,.string ⟨([83,85,77]:List UInt8).toArray⟩,.string ⟨([77,73,78]:List UInt8).toArray⟩,.string ⟨([77,65,88]:List UInt8).toArray⟩],rfl,rfl,⟨[.string ⟨([76,69,70,84]:List UInt8).toArray⟩],[.string ⟨([74,79,73,78]:List UInt8).toArray⟩,.string ⟨([79,78]:List UInt8).toArray⟩,.string ⟨([87,72,69,82,69]:List UInt8).toArray⟩,.string ⟨([71,82,79,85,80]:List UInt8).toArray⟩,.string ⟨([66,89]:List UInt8).toArray⟩,.string ⟨([72,65,86,73,78,71]:List UInt8).toArray⟩,.string ⟨([85,78,73,79,78]:List UInt8).toArray⟩,.string ⟨([65,76,76]:List UInt8).toArray⟩,.string ⟨([79,82,68,69,82]:List UInt8).toArray⟩,.string ⟨([76,73,77,73,84]:List UInt8).toArray⟩,.string ⟨([65,83,67]:List UInt8).toArray⟩,.string ⟨([68,69,83,67]:List UInt8).toArray⟩,.string ⟨([65,83]:List UInt8).toArray⟩,.string ⟨([65,78,68]:List UInt8).toArray⟩,.string ⟨([79,82]:List UInt8).toArray⟩,.string ⟨([78,79,84]:List UInt8).toArray⟩,.string ⟨([73,83]:List UInt8).toArray⟩,.string ⟨([78,85,76,76]:List UInt8).toArray⟩,.string ⟨([84,82,85,69]:List UInt8).toArray⟩,.string ⟨([70,65,76,83,69]:List UInt8).toArray⟩,.string ⟨([67,79,85,78,84]:List UInt8).toArray⟩,.string ⟨([83,85,77]:List UInt8).toArray⟩,.string ⟨([77,73,78]:List UInt8).toArray⟩,.string ⟨([77,65,88]:List UInt8).toArray⟩],rfl,rfl,⟨[.string ⟨([74,79,73,78]:List UInt8).toArray⟩],[.string ⟨([79,78]:List UInt8).toArray⟩,.string ⟨([87,72,69,82,69]:List UInt8).toArray⟩,.string ⟨([71,82,79,85,80]:List UInt8).toArray⟩,.string ⟨([66,89]:List UInt8).toArray⟩,.string ⟨([72,65,86,73,78,71]:List UInt8).toArray⟩,.string ⟨([85,78,73,79,78]:List UInt8).toArray⟩,.string ⟨([65,76,76]:List UInt8).toArray⟩,.string ⟨([79,82,68,69,82]:List UInt8).toArray⟩,.string ⟨([76,73,77,73,84]:List UInt8).toArray⟩,.string ⟨([65,83,67]:List UInt8).toArray⟩,.string ⟨([68,69,83,67]:List UInt8).toArray⟩,.string ⟨([65,83]:List UInt8).toArray⟩,.string ⟨([65,78,68]:List UInt8).toArray⟩,.string ⟨([79,82]:List UInt8).toArray⟩,.string ⟨([78,79,84]:List UInt8).toArray⟩,.string ⟨([73,83]:List UInt8).toArray⟩,.string ⟨([78,85,76,76]:List UInt8).toArray⟩,.string ⟨([84,82,85,69]:List UInt8).toArray⟩,.string ⟨([70,65,76,83,69]:List UInt8).toArray⟩,.string ⟨([67,79,85,78,84]:List UInt8).toArray⟩,.string ⟨([83,85,77]:List UInt8).toArray⟩,.string ⟨([77,73,78]:List UInt8).toArray⟩,.string ⟨([77,65,88]:List UInt8).toArray⟩],rfl,rfl,⟨[.string ⟨([79,78]:List UInt8).toArray⟩],[.string ⟨([87,72,69,82,69]:List UInt8).toArray⟩,.string ⟨([71,82,79,85,80]:List UInt8).toArray⟩,.string ⟨([66,89]:List UInt8).toArray⟩,.string ⟨([72,65,86,73,78,71]:List UInt8).toArray⟩,.string ⟨([85,78,73,79,78]:List UInt8).toArray⟩,.string ⟨([65,76,76]:List UInt8).toArray⟩,.string ⟨([79,82,68,69,82]:List UInt8).toArray⟩,.string ⟨([76,73,77,73,84]:List UInt8).toArray⟩,.string ⟨([65,83,67]:List UInt8).toArray⟩,.string ⟨([68,69,83,67]:List UInt8).toArray⟩,.string ⟨([65,83]:List UInt8).toArray⟩,.string ⟨([65,78,68]:List UInt8).toArray⟩,.string ⟨([79,82]:List UInt8).toArray⟩,.string ⟨([78,79,84]:List UInt8).toArray⟩,.string ⟨([73,83]:List UInt8).toArray⟩,.string ⟨([78,85,76,76]:List UInt8).toArray⟩,.string ⟨([84,82,85,69]:List UInt8).toArray⟩,.string ⟨([70,65,76,83,69]:List UInt8).toArray⟩,.string ⟨([67,79,85,78,84]:List UInt8).toArray⟩,.string ⟨([83,85,77]:List UInt8).toArray⟩,.string ⟨([77,73,78]:List UInt8).toArray⟩,.string ⟨([77,65,88]:List UInt8).toArray⟩],rfl,rfl,⟨[.string ⟨([87,72,69,82,69]:List UInt8).toArray⟩],[.string ⟨([71,82,79,85,80]:List UInt8).toArray⟩,.string ⟨([66,89]:List UInt8).toArray⟩,.string ⟨([72,65,86,73,78,71]:List UInt8).toArray⟩,.string ⟨([85,78,73,79,78]:List UInt8).toArray⟩,.string ⟨([65,76,76]:List UInt8).toArray⟩,.string ⟨([79,82,68,69,82]:List UInt8).toArray⟩,.string ⟨([76,73,77,73,84]:List UInt8).toArray⟩,.string ⟨([65,83,67]:List UInt8).toArray⟩,.string ⟨([68,69,83,67]:List UInt8).toArray⟩,.string ⟨([65,83]:List UInt8).toArray⟩,.string ⟨([65,78,68]:List UInt8).toArray⟩,.string ⟨([79,82]:List UInt8).toArray⟩,.string ⟨([78,79,84]:List UInt8).toArray⟩,.string ⟨([73,83]:List UInt8).toArray⟩,.string ⟨([78,85,76,76]:List UInt8).toArray⟩,.string ⟨([84,82,85,69]:List UInt8).toArray⟩,.string ⟨([70,65,76,83,69]:List UInt8).toArray⟩,.string ⟨([67,79,85,78,84]:List UInt8).toArray⟩,.string ⟨([83,85,77]:List UInt8).toArray⟩,.string ⟨([77,73,78]:List UInt8).toArray⟩,.string ⟨([77,65,88]:List UInt8).toArray⟩],rfl,rfl,⟨[.string ⟨([71,82,79,85,80]:List UInt8).toArray⟩],[.string ⟨([66,89]:List UInt8).toArray⟩,.string ⟨([72,65,86,73,78,71]:List UInt8).toArray⟩,.string ⟨([85,78,73,79,78]:List UInt8).toArray⟩,.string ⟨([65,76,76]:List UInt8).toArray⟩,.string ⟨([79,82,68,69,82]:List UInt8).toArray⟩,.string ⟨([76,73,77,73,84]:List UInt8).toArray⟩,.string ⟨([65,83,67]:List UInt8).toArray⟩,.string ⟨([68,69,83,67]:List UInt8).toArray⟩,.string ⟨([65,83]:List UInt8).toArray⟩,.string ⟨([65,78,68]:List UInt8).toArray⟩,.string ⟨([79,82]:List UInt8).toArray⟩,.string ⟨([78,79,84]:List UInt8).toArray⟩,.string ⟨([73,83]:List UInt8).toArray⟩,.string ⟨([78,85,76,76]:List UInt8).toArray⟩,.string ⟨([84,82,85,69]:List UInt8).toArray⟩,.string ⟨([70,65,76,83,69]:List UInt8).toArray⟩,.string ⟨([67,79,85,78,84]:List UInt8).toArray⟩,.string ⟨([83,85,77]:List UInt8).toArray⟩,.string ⟨([77,73,78]:List UInt8).toArray⟩,.string ⟨([77,65,88]:List UInt8).toArray⟩],rfl,rfl,⟨[.string ⟨([66,89]:List UInt8).toArray⟩],[.string ⟨([72,65,86,73,78,71]:List UInt8).toArray⟩,.string ⟨([85,78,73,79,78]:List UInt8).toArray⟩,.string ⟨([65,76,76]:List UInt8).toArray⟩,.string ⟨([79,82,68,69,82]:List UInt8).toArray⟩,.string ⟨([76,73,77,73,84]:List UInt8).toArray⟩,.string ⟨([65,83,67]:List UInt8).toArray⟩,.string ⟨([68,69,83,67]:List UInt8).toArray⟩,.string ⟨([65,83]:List UInt8).toArray⟩,.string ⟨([65,78,68]:List UInt8).toArray⟩,.string ⟨([79,82]:List UInt8).toArray⟩,.string ⟨([78,79,84]:List UInt8).toArray⟩,.string ⟨([73,83]:List UInt8).toArray⟩,.string ⟨([78,85,76,76]:List UInt8).toArray⟩,.string ⟨([84,82,85,69]:List UInt8).toArray⟩,.string ⟨([70,65,76,83,69]:List UInt8).toArray⟩,.string ⟨([67,79,85,78,84]:List UInt8).toArray⟩,.string ⟨([83,85,77]:List UInt8).toArray⟩,.string ⟨([77,73,78]:List UInt8).toArray⟩,.string ⟨([77,65,88]:List UInt8).toArray⟩],rfl,rfl,⟨[.string ⟨([72,65,86,73,78,71]:List UInt8).toArray⟩],[.string ⟨([85,78,73,79,78]:List UInt8).toArray⟩,.string ⟨([65,76,76]:List UInt8).toArray⟩,.string ⟨([79,82,68,69,82]:List UInt8).toArray⟩,.string ⟨([76,73,77,73,84]:List UInt8).toArray⟩,.string ⟨([65,83,67]:List UInt8).toArray⟩,.string ⟨([68,69,83,67]:List UInt8).toArray⟩,.string ⟨([65,83]:List UInt8).toArray⟩,.string ⟨([65,78,68]:List UInt8).toArray⟩,.string ⟨([79,82]:List UInt8).toArray⟩,.string ⟨([78,79,84]:List UInt8).toArray⟩,.string ⟨([73,83]:List UInt8).toArray⟩,.string ⟨([78,85,76,76]:List UInt8).toArray⟩,.string ⟨([84,82,85,69]:List UInt8).toArray⟩,.string ⟨([70,65,76,83,69]:List UInt8).toArray⟩,.string ⟨([67,79,85,78,84]:List UInt8).toArray⟩,.string ⟨([83,85,77]:List UInt8).toArray⟩,.string ⟨([77,73,78]:List UInt8).toArray⟩,.string ⟨([77,65,88]:List UInt8).toArray⟩],rfl,rfl,⟨[.string ⟨([85,78,73,79,78]:List UInt8).toArray⟩],[.string ⟨([65,76,76]:List UInt8).toArray⟩,.string ⟨([79,82,68,69,82]:List UInt8).toArray⟩,.string ⟨([76,73,77,73,84]:List UInt8).toArray⟩,.string ⟨([65,83,67]:List UInt8).toArray⟩,.string ⟨([68,69,83,67]:List UInt8).toArray⟩,.string ⟨([65,83]:List UInt8).toArray⟩,.string ⟨([65,78,68]:List UInt8).toArray⟩,.string ⟨([79,82]:List UInt8).toArray⟩,.string ⟨([78,79,84]:List UInt8).toArray⟩,.string ⟨([73,83]:List UInt8).toArray⟩,.string ⟨([78,85,76,76]:List UInt8).toArray⟩,.string ⟨([84,82,85,69]:List UInt8).toArray⟩,.string ⟨([70,65,76,83,69]:List UInt8).toArray⟩,.string ⟨([67,79,85,78,84]:List UInt8).toArray⟩,.string ⟨([83,85,77]:List UInt8).toArray⟩,.string ⟨([77,73,78]:List UInt8).toArray⟩,.string ⟨([77,65,88]:List UInt8).toArray⟩],rfl,rfl,⟨[.string ⟨([65,76,76]:List UInt8).toArray⟩],[.string ⟨([79,82,68,69,82]:List UInt8).toArray⟩,.string ⟨([76,73,77,73,84]:List UInt8).toArray⟩,.string ⟨([65,83,67]:List UInt8).toArray⟩,.string ⟨([68,69,83,67]:List UInt8).toArray⟩,.string ⟨([65,83]:List UInt8).toArray⟩,.string ⟨([65,78,68]:List UInt8).toArray⟩,.string ⟨([79,82]:List UInt8).toArray⟩,.string ⟨([78,79,84]:List UInt8).toArray⟩,.string ⟨([73,83]:List UInt8).toArray⟩,.string ⟨([78,85,76,76]:List UInt8).toArray⟩,.string ⟨([84,82,85,69]:List UInt8).toArray⟩,.string ⟨([70,65,76,83,69]:List UInt8).toArray⟩,.string ⟨([67,79,85,78,84]:List UInt8).toArray⟩,.string ⟨([83,85,77]:List UInt8).toArray⟩,.string ⟨([77,73,78]:List UInt8).toArray⟩,.string ⟨([77,65,88]:List UInt8).toArray⟩],rfl,rfl,⟨[.string ⟨([79,82,68,69,82]:List UInt8).toArray⟩],[.string ⟨([76,73,77,73,84]:List UInt8).toArray⟩,.string ⟨([65,83,67]:List UInt8).toArray⟩,.string ⟨([68,69,83,67]:List UInt8).toArray⟩,.string ⟨([65,83]:List UInt8).toArray⟩,.string ⟨([65,78,68]:List UInt8).toArray⟩,.string ⟨([79,82]:List UInt8).toArray⟩,.string ⟨([78,79,84]:List UInt8).toArray⟩,.string ⟨([73,83]:List UInt8).toArray⟩,.string ⟨([78,85,76,76]:List UInt8).toArray⟩,.string ⟨([84,82,85,69]:List UInt8).toArray⟩,.string ⟨([70,65,76,83,69]:List UInt8).toArray⟩,.string ⟨([67,79,85,78,84]:List UInt8).toArray⟩,.string ⟨([83,85,77]:List UInt8).toArray⟩,.string ⟨([77,73,78]:List UInt8).toArray⟩,.string ⟨([77,65,88]:List UInt8).toArray⟩],rfl,rfl,⟨[.string ⟨([76,73,77,73,84]:List UInt8).toArray⟩],[.string ⟨([65,83,67]:List UInt8).toArray⟩,.string ⟨([68,69,83,67]:List UInt8).toArray⟩,.string ⟨([65,83]:List UInt8).toArray⟩,.string ⟨([65,78,68]:List UInt8).toArray⟩,.string ⟨([79,82]:List UInt8).toArray⟩,.string ⟨([78,79,84]:List UInt8).toArray⟩,.string ⟨([73,83]:List UInt8).toArray⟩,.string ⟨([78,85,76,76]:List UInt8).toArray⟩,.string ⟨([84,82,85,69]:List UInt8).toArray⟩,.string ⟨([70,65,76,83,69]:List UInt8).toArray⟩,.string ⟨([67,79,85,78,84]:List UInt8).toArray⟩,.string ⟨([83,85,77]:List UInt8).toArray⟩,.string ⟨([77,73,78]:List UInt8).toArray⟩,.string ⟨([77,65,88]:List UInt8).toArray⟩],rfl,rfl,⟨[.string ⟨([65,83,67]:List UInt8).toArray⟩],[.string ⟨([68,69,83,67]:List UInt8).toArray⟩,.string ⟨([65,83]:List UInt8).toArray⟩,.string ⟨([65,78,68]:List UInt8).toArray⟩,.string ⟨([79,82]:List UInt8).toArray⟩,.string ⟨([78,79,84]:List UInt8).toArray⟩,.string ⟨([73,83]:List UInt8).toArray⟩,.string ⟨([78,85,76,76]:List UInt8).toArray⟩,.string ⟨([84,82,85,69]:List UInt8).toArray⟩,.string ⟨([70,65,76,83,69]:List UInt8).toArray⟩,.string ⟨([67,79,85,78,84]:List UInt8).toArray⟩,.string ⟨([83,85,77]:List UInt8).toArray⟩,.string ⟨([77,73,78]:List UInt8).toArray⟩,.string ⟨([77,65,88]:List UInt8).toArray⟩],rfl,rfl,⟨[.string ⟨([68,69,83,67]:List UInt8).toArray⟩],[.string ⟨([65,83]:List UInt8).toArray⟩,.string ⟨([65,78,68]:List UInt8).toArray⟩,.string ⟨([79,82]:List UInt8).toArray⟩,.string ⟨([78,79,84]:List UInt8).toArray⟩,.string ⟨([73,83]:List UInt8).toArray⟩,.string ⟨([78,85,76,76]:List UInt8).toArray⟩,.string ⟨([84,82,85,69]:List UInt8).toArray⟩,.string ⟨([70,65,76,83,69]:List UInt8).toArray⟩,.string ⟨([67,79,85,78,84]:List UInt8).toArray⟩,.string ⟨([83,85,77]:List UInt8).toArray⟩,.string ⟨([77,73,78]:List UInt8).toArray⟩,.string ⟨([77,65,88]:List UInt8).toArray⟩],rfl,rfl,⟨[.string ⟨([65,83]:List UInt8).toArray⟩],[.string ⟨([65,78,68]:List UInt8).toArray⟩,.string ⟨([79,82]:List UInt8).toArray⟩,.string ⟨([78,79,84]:List UInt8).toArray⟩,.string ⟨([73,83]:List UInt8).toArray⟩,.string ⟨([78,85,76,76]:List UInt8).toArray⟩,.string ⟨([84,82,85,69]:List UInt8).toArray⟩,.string ⟨([70,65,76,83,69]:List UInt8).toArray⟩,.string ⟨([67,79,85,78,84]:List UInt8).toArray⟩,.string ⟨([83,85,77]:List UInt8).toArray⟩,.string ⟨([77,73,78]:List UInt8).toArray⟩,.string ⟨([77,65,88]:List UInt8).toArray⟩],rfl,rfl,⟨[.string ⟨([65,78,68]:List UInt8).toArray⟩],[.string ⟨([79,82]:List UInt8).toArray⟩,.string ⟨([78,79,84]:List UInt8).toArray⟩,.string ⟨([73,83]:List UInt8).toArray⟩,.string ⟨([78,85,76,76]:List UInt8).toArray⟩,.string ⟨([84,82,85,69]:List UInt8).toArray⟩,.string ⟨([70,65,76,83,69]:List UInt8).toArray⟩,.string ⟨([67,79,85,78,84]:List UInt8).toArray⟩,.string ⟨([83,85,77]:List UInt8).toArray⟩,.string ⟨([77,73,78]:List UInt8).toArray⟩,.string ⟨([77,65,88]:List UInt8).toArray⟩],rfl,rfl,⟨[.string ⟨([79,82]:List UInt8).toArray⟩],[.string ⟨([78,79,84]:List UInt8).toArray⟩,.string ⟨([73,83]:List UInt8).toArray⟩,.string ⟨([78,85,76,76]:List UInt8).toArray⟩,.string ⟨([84,82,85,69]:List UInt8).toArray⟩,.string ⟨([70,65,76,83,69]:List UInt8).toArray⟩,.string ⟨([67,79,85,78,84]:List UInt8).toArray⟩,.string ⟨([83,85,77]:List UInt8).toArray⟩,.string ⟨([77,73,78]:List UInt8).toArray⟩,.string ⟨([77,65,88]:List UInt8).toArray⟩],rfl,rfl,⟨[.string ⟨([78,79,84]:List UInt8).toArray⟩],[.string ⟨([73,83]:List UInt8).toArray⟩,.string ⟨([78,85,76,76]:List UInt8).toArray⟩,.string ⟨([84,82,85,69]:List UInt8).toArray⟩,.string ⟨([70,65,76,83,69]:List UInt8).toArray⟩,.string ⟨([67,79,85,78,84]:List UInt8).toArray⟩,.string ⟨([83,85,77]:List UInt8).toArray⟩,.string ⟨([77,73,78]:List UInt8).toArray⟩,.string ⟨([77,65,88]:List UInt8).toArray⟩],rfl,rfl,⟨[.string ⟨([73,83]:List UInt8).toArray⟩],[.string ⟨([78,85,76,76]:List UInt8).toArray⟩,.string ⟨([84,82,85,69]:List UInt8).toArray⟩,.string ⟨([70,65,76,83,69]:List UInt8).toArray⟩,.string ⟨([67,79,85,78,84]:List UInt8).toArray⟩,.string ⟨([83,85,77]:List UInt8).toArray⟩,.string ⟨([77,73,78]:List UInt8).toArray⟩,.string ⟨([77,65,88]:List UInt8).toArray⟩],rfl,rfl,⟨[.string ⟨([78,85,76,76]:List UInt8).toArray⟩],[.string ⟨([84,82,85,69]:List UInt8).toArray⟩,.string ⟨([70,65,76,83,69]:List UInt8).toArray⟩,.string ⟨([67,79,85,78,84]:List UInt8).toArray⟩,.string ⟨([83,85,77]:List UInt8).toArray⟩,.string ⟨([77,73,78]:List UInt8).toArray⟩,.string ⟨([77,65,88]:List UInt8).toArray⟩],rfl,rfl,⟨[.string ⟨([84,82,85,69]:List UInt8).toArray⟩],[.string ⟨([70,65,76,83,69]:List UInt8).toArray⟩,.string ⟨([67,79,85,78,84]:List UInt8).toArray⟩,.string ⟨([83,85,77]:List UInt8).toArray⟩,.string ⟨([77,73,78]:List UInt8).toArray⟩,.string ⟨([77,65,88]:List UInt8).toArray⟩],rfl,rfl,⟨[.string ⟨([70,65,76,83,69]:List UInt8).toArray⟩],[.string ⟨([67,79,85,78,84]:List UInt8).toArray⟩,.string ⟨([83,85,77]:List UInt8).toArray⟩,.string ⟨([77,73,78]:List UInt8).toArray⟩,.string ⟨([77,65,88]:List UInt8).toArray⟩],rfl,rfl,⟨[.string ⟨([67,79,85,78,84]:List UInt8).toArray⟩],[.string ⟨([83,85,77]:List UInt8).toArray⟩,.string ⟨([77,73,78]:List UInt8).toArray⟩,.string ⟨([77,65,88]:List UInt8).toArray⟩],rfl,rfl,⟨[.string ⟨([83,85,77]:List UInt8).toArray⟩],[.string ⟨([77,73,78]:List UInt8).toArray⟩,.string ⟨([77,65,88]:List UInt8).toArray⟩],rfl,rfl,⟨[.string ⟨([77,73,78]:List UInt8).toArray⟩],[.string ⟨([77,65,88]:List UInt8).toArray⟩],rfl,rfl,⟨[.string ⟨([77,65,88]:List UInt8).toArray⟩],[],rfl,rfl,(rfl:_=[])⟩⟩⟩⟩⟩⟩⟩⟩⟩⟩⟩⟩⟩⟩⟩⟩⟩⟩⟩⟩⟩⟩⟩⟩⟩⟩⟩⟩⟩

end Go.Proofs.YthbdkceckjihgaaGreatDoor

