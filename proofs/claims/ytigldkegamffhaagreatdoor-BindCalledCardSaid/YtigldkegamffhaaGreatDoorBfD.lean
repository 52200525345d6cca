/- de of this claim: D. -/
import Derived.Test.YtigldkegamffhaaGreatDoorBfV3
import Derived.Test.YtigldkegamffhaaGreatDoorBfV4
set_option linter.all false
namespace Go.Proofs.YtigldkegamffhaaGreatDoor
open Go

structure bJ where
 Name:cj
 Kind:Int
 deriving DecidableEq,Inhabited
def cX:Rp bJ:=j4 (bS rS (rI .i64)) (fun x=>(x.Name,x.Kind))
def sF:ju cX 0 rS (fun x=>x.Name):=(cw bq)
def yM:fm cX 0 rS (fun x y=>{x with Name:=y}):=bB cE (fun _ _=>rfl)
def Fe:ju cX 1 (rI .i64) (fun x=>x.Kind):=(aq bq rfl)
def yL:fm cX 1 (rI .i64) (fun x y=>{x with Kind:=y}):=bB (ax ak rfl) (fun _ _=>rfl)
def ro: ∀S,cX.rc S [.string ⟨#[]⟩,.int .i64 0] ((⟨[],(0:Int)⟩:bJ)):=fun _=>⟨[.string ⟨#[]⟩],[.int .i64 0],rfl,rfl,rfl⟩
structure JU where
 word:cj
 kind:Int
 deriving DecidableEq,Inhabited
def zN:Rp JU:=j4 (bS rS (rI .i64)) (fun x=>(x.word,x.kind))
def SM:ju zN 0 rS (fun x=>x.word):=(cw bq)
def SL:ju zN 1 (rI .i64) (fun x=>x.kind):=(aq bq rfl)
def V3: ∀S,zN.rc S [.string ⟨#[]⟩,.int .i64 0] ((⟨[],(0:Int)⟩:JU)):=fun _=>⟨[.string ⟨#[]⟩],[.int .i64 0],rfl,rfl,rfl⟩
structure bR where
 Name:cj
 Columns:(List bJ)
 Keys:(List Int)
 deriving DecidableEq,Inhabited
def di:Rp bR:=j4 (bS rS (bS (fJ cX) (fJ (rI .i64)))) (fun x=>(x.Name,x.Columns,x.Keys))
def Ht:ju di 0 rS (fun x=>x.Name):=(cw bq)
def GB:fm di 0 rS (fun x y=>{x with Name:=y}):=bB cE (fun _ _=>rfl)
def oh:ju di 1 (fJ cX) (fun x=>x.Columns):=(cw (aq bq rfl))
def Bn:fm di 1 (fJ cX) (fun x y=>{x with Columns:=y}):=bB (ax cE rfl) (fun _ _=>rfl)
def BD:ju di 2 (fJ (rI .i64)) (fun x=>x.Keys):=(aq (aq bq rfl) rfl)
def N6:fm di 2 (fJ (rI .i64)) (fun x y=>{x with Keys:=y}):=bB (ax (ax ak rfl) rfl) (fun _ _=>rfl)
def Ck: ∀S,di.rc S [.string ⟨#[]⟩,.slice none 0 0,.slice none 0 0] ((⟨[],[],[]⟩:bR)):=fun _=>⟨[.string ⟨#[]⟩],[.slice none 0 0,.slice none 0 0],rfl,rfl,⟨[.slice none 0 0],[.slice none 0 0],rfl,⟨none,0,rfl,gu _,jv _,.inl rfl⟩,⟨none,0,rfl,gu _,jv _,.inl rfl⟩⟩⟩
structure aw where
 Tables:(List bR)
 deriving DecidableEq,Inhabited
def cn:Rp aw:=j4 (fJ di) (fun x=>(x.Tables))
def nf:ju cn 0 (fJ di) (fun x=>x.Tables):=bq
def Kh:fm cn 0 (fJ di) (fun x y=>{x with Tables:=y}):=bB ak (fun _ _=>rfl)
def rp: ∀S,cn.rc S [.slice none 0 0] ((⟨[]⟩:aw)):=fun _=>⟨none,0,rfl,gu _,jv _,.inl rfl⟩
structure cr where
 Kind:Int
 N:Int
 U:Int
 S:cj
 deriving DecidableEq,Inhabited
def eY:Rp cr:=j4 (bS (rI .i64) (bS (rI .i64) (bS (rI .u64) rS))) (fun x=>(x.Kind,x.N,x.U,x.S))
def xc:ju eY 0 (rI .i64) (fun x=>x.Kind):=(cw bq)
def Bm:fm eY 0 (rI .i64) (fun x y=>{x with Kind:=y}):=bB cE (fun _ _=>rfl)
def xb:ju eY 1 (rI .i64) (fun x=>x.N):=(cw (aq bq rfl))
def GA:fm eY 1 (rI .i64) (fun x y=>{x with N:=y}):=bB (ax cE rfl) (fun _ _=>rfl)
def O6:ju eY 2 (rI .u64) (fun x=>x.U):=(cw (aq (aq bq rfl) rfl))
def N5:fm eY 2 (rI .u64) (fun x y=>{x with U:=y}):=bB (ax (ax cE rfl) rfl) (fun _ _=>rfl)
def pO:ju eY 3 rS (fun x=>x.S):=(aq (aq (aq bq rfl) rfl) rfl)
def Bl:fm eY 3 rS (fun x y=>{x with S:=y}):=bB (ax (ax (ax ak rfl) rfl) rfl) (fun _ _=>rfl)
def uo: ∀S,eY.rc S [.int .i64 0,.int .i64 0,.int .u64 0,.string ⟨#[]⟩] ((⟨(0:Int),(0:Int),(0:Int),[]⟩:cr)):=fun _=>⟨[.int .i64 0],[.int .i64 0,.int .u64 0,.string ⟨#[]⟩],rfl,rfl,⟨[.int .i64 0],[.int .u64 0,.string ⟨#[]⟩],rfl,rfl,⟨[.int .u64 0],[.string ⟨#[]⟩],rfl,rfl,rfl⟩⟩⟩
structure cx where
 Tag:Int
 L:Int
 R:Int
 Value:cr
 Table:cj
 Name:cj
 deriving DecidableEq,Inhabited
def cd:Rp cx:=j4 (bS (rI .i64) (bS (rI .i64) (bS (rI .i64) (bS eY (bS rS rS))))) (fun x=>(x.Tag,x.L,x.R,x.Value,x.Table,x.Name))
def p7:ju cd 0 (rI .i64) (fun x=>x.Tag):=(cw bq)
def R4:fm cd 0 (rI .i64) (fun x y=>{x with Tag:=y}):=bB cE (fun _ _=>rfl)
def JC:ju cd 1 (rI .i64) (fun x=>x.L):=(cw (aq bq rfl))
def R2:fm cd 1 (rI .i64) (fun x y=>{x with L:=y}):=bB (ax cE rfl) (fun _ _=>rfl)
def JB:ju cd 2 (rI .i64) (fun x=>x.R):=(cw (aq (aq bq rfl) rfl))
def R1:fm cd 2 (rI .i64) (fun x y=>{x with R:=y}):=bB (ax (ax cE rfl) rfl) (fun _ _=>rfl)
def mE:ju cd 3 eY (fun x=>x.Value):=(cw (aq (aq (aq bq rfl) rfl) rfl))
def I5:fm cd 3 eY (fun x y=>{x with Value:=y}):=bB (ax (ax (ax cE rfl) rfl) rfl) (fun _ _=>rfl)
def p6:ju cd 7 rS (fun x=>x.Table):=(cw (aq (aq (aq (aq bq rfl) rfl) rfl) rfl))
def DV:fm cd 7 rS (fun x y=>{x with Table:=y}):=bB (ax (ax (ax (ax cE rfl) rfl) rfl) rfl) (fun _ _=>rfl)
def p5:ju cd 8 rS (fun x=>x.Name):=(aq (aq (aq (aq (aq bq rfl) rfl) rfl) rfl) rfl)
def DU:fm cd 8 rS (fun x y=>{x with Name:=y}):=bB (ax (ax (ax (ax (ax ak rfl) rfl) rfl) rfl) rfl) (fun _ _=>rfl)
def Cl: ∀S,cd.rc S [.int .i64 0,.int .i64 0,.int .i64 0,.int .i64 0,.int .i64 0,.int .u64 0,.string ⟨#[]⟩,.string ⟨#[]⟩,.string ⟨#[]⟩] ((⟨(0:Int),(0:Int),(0:Int),(⟨(0:Int),(0:Int),(0:Int),[]⟩:cr),[],[]⟩:cx)):=fun _=>⟨[.int .i64 0],[.int .i64 0,.int .i64 0,.int .i64 0,.int .i64 0,.int .u64 0,.string ⟨#[]⟩,.string ⟨#[]⟩,.string ⟨#[]⟩],rfl,rfl,⟨[.int .i64 0],[.int .i64 0,.int .i64 0,.int .i64 0,.int .u64 0,.string ⟨#[]⟩,.string ⟨#[]⟩,.string ⟨#[]⟩],rfl,rfl,⟨[.int .i64 0],[.int .i64 0,.int .i64 0,.int .u64 0,.string ⟨#[]⟩,.string ⟨#[]⟩,.string ⟨#[]⟩],rfl,rfl,⟨[.int .i64 0,.int .i64 0,.int .u64 0,.string ⟨#[]⟩],[.string ⟨#[]⟩,.string ⟨#[]⟩],rfl,uo _,⟨[.string ⟨#[]⟩],[.string ⟨#[]⟩],rfl,rfl,rfl⟩⟩⟩⟩⟩
structure bT where
 Nodes:(List cx)
 deriving DecidableEq,Inhabited
def aX:Rp bT:=j4 (fJ cd) (fun x=>(x.Nodes))
def lm:ju aX 0 (fJ cd) (fun x=>x.Nodes):=bq
def R0:fm aX 0 (fJ cd) (fun x y=>{x with Nodes:=y}):=bB ak (fun _ _=>rfl)
def qj: ∀S,aX.rc S [.slice none 0 0] ((⟨[]⟩:bT)):=fun _=>⟨none,0,rfl,gu _,jv _,.inl rfl⟩
structure ev where
 Tree:bT
 As:cj
 deriving DecidableEq,Inhabited
def cv:Rp ev:=j4 (bS aX rS) (fun x=>(x.Tree,x.As))
def oP:ju cv 0 aX (fun x=>x.Tree):=(cw bq)
def zM:fm cv 0 aX (fun x y=>{x with Tree:=y}):=bB cE (fun _ _=>rfl)
def JD:ju cv 1 rS (fun x=>x.As):=(aq bq rfl)
def u6: ∀S,cv.rc S [.slice none 0 0,.string ⟨#[]⟩] ((⟨(⟨[]⟩:bT),[]⟩:ev)):=fun _=>⟨[.slice none 0 0],[.string ⟨#[]⟩],rfl,qj _,rfl⟩
structure ci where
 Table:cj
 As:cj
 deriving DecidableEq,Inhabited
def fS:Rp ci:=j4 (bS rS rS) (fun x=>(x.Table,x.As))
def sE:ju fS 0 rS (fun x=>x.Table):=(cw bq)
def LK:fm fS 0 rS (fun x y=>{x with Table:=y}):=bB cE (fun _ _=>rfl)
def sD:ju fS 1 rS (fun x=>x.As):=(aq bq rfl)
def E1:fm fS 1 rS (fun x y=>{x with As:=y}):=bB (ax ak rfl) (fun _ _=>rfl)
def zF: ∀S,fS.rc S [.string ⟨#[]⟩,.string ⟨#[]⟩] ((⟨[],[]⟩:ci)):=fun _=>⟨[.string ⟨#[]⟩],[.string ⟨#[]⟩],rfl,rfl,rfl⟩
structure g9 where
 Left:Bool
 Source:ci
 On:bT
 deriving DecidableEq,Inhabited
def cz:Rp g9:=j4 (bS rB (bS fS aX)) (fun x=>(x.Left,x.Source,x.On))
def SN:ju cz 0 rB (fun x=>x.Left):=(cw bq)
def z8:ju cz 1 fS (fun x=>x.Source):=(cw (aq bq rfl))
def R5:fm cz 1 fS (fun x y=>{x with Source:=y}):=bB (ax cE rfl) (fun _ _=>rfl)
def wq:ju cz 3 aX (fun x=>x.On):=(aq (aq bq rfl) rfl)
def DX:fm cz 3 aX (fun x y=>{x with On:=y}):=bB (ax (ax ak rfl) rfl) (fun _ _=>rfl)
def Cn: ∀S,cz.rc S [.bool false,.string ⟨#[]⟩,.string ⟨#[]⟩,.slice none 0 0] ((⟨false,(⟨[],[]⟩:ci),(⟨[]⟩:bT)⟩:g9)):=fun _=>⟨[.bool false],[.string ⟨#[]⟩,.string ⟨#[]⟩,.slice none 0 0],rfl,rfl,⟨[.string ⟨#[]⟩,.string ⟨#[]⟩],[.slice none 0 0],rfl,zF _,qj _⟩⟩
structure gk where
 Table:cj
 Name:cj
 deriving DecidableEq,Inhabited
def cK:Rp gk:=j4 (bS rS rS) (fun x=>(x.Table,x.Name))
def z7:ju cK 0 rS (fun x=>x.Table):=(cw bq)
def DW:fm cK 0 rS (fun x y=>{x with Table:=y}):=bB cE (fun _ _=>rfl)
def Eo:ju cK 1 rS (fun x=>x.Name):=(aq bq rfl)
def I6:fm cK 1 rS (fun x y=>{x with Name:=y}):=bB (ax ak rfl) (fun _ _=>rfl)
def Cm: ∀S,cK.rc S [.string ⟨#[]⟩,.string ⟨#[]⟩] ((⟨[],[]⟩:gk)):=fun _=>⟨[.string ⟨#[]⟩],[.string ⟨#[]⟩],rfl,rfl,rfl⟩
structure ae where
 Distinct:Bool
 Star:Bool
 Items:(List ev)
 From:ci
 Joins:(List g9)
 Where:bT
 Having:bT
 Group:(List gk)
 deriving DecidableEq,Inhabited
def aR:Rp ae:=j4 (bS rB (bS rB (bS (fJ cv) (bS fS (bS (fJ cz) (bS aX (bS aX (fJ cK)))))))) (fun x=>(x.Distinct,x.Star,x.Items,x.From,x.Joins,x.Where,x.Having,x.Group))
def MF:ju aR 0 rB (fun x=>x.Distinct):=(cw bq)
def vu:ju aR 1 rB (fun x=>x.Star):=(cw (aq bq rfl))
def mW:ju aR 2 (fJ cv) (fun x=>x.Items):=(cw (aq (aq bq rfl) rfl))
def LM:fm aR 2 (fJ cv) (fun x y=>{x with Items:=y}):=bB (ax (ax cE rfl) rfl) (fun _ _=>rfl)
def Fc:ju aR 3 fS (fun x=>x.From):=(cw (aq (aq (aq bq rfl) rfl) rfl))
def LL:fm aR 3 fS (fun x y=>{x with From:=y}):=bB (ax (ax (ax cE rfl) rfl) rfl) (fun _ _=>rfl)
def oj:ju aR 5 (fJ cz) (fun x=>x.Joins):=(cw (aq (aq (aq (aq bq rfl) rfl) rfl) rfl))
def y8:ju aR 6 aX (fun x=>x.Where):=(cw (aq (aq (aq (aq (aq bq rfl) rfl) rfl) rfl) rfl))
def vt:ju aR 7 aX (fun x=>x.Having):=(cw (aq (aq (aq (aq (aq (aq bq rfl) rfl) rfl) rfl) rfl) rfl))
def kJ:ju aR 8 (fJ cK) (fun x=>x.Group):=(aq (aq (aq (aq (aq (aq (aq bq rfl) rfl) rfl) rfl) rfl) rfl) rfl)
def DB: ∀S,aR.rc S [.bool false,.bool false,.slice none 0 0,.string ⟨#[]⟩,.string ⟨#[]⟩,.slice none 0 0,.slice none 0 0,.slice none 0 0,.slice none 0 0] ((⟨false,false,[],(⟨[],[]⟩:ci),[],(⟨[]⟩:bT),(⟨[]⟩:bT),[]⟩:ae)):=fun _=>⟨[.bool false],[.bool false,.slice none 0 0,.string ⟨#[]⟩,.string ⟨#[]⟩,.slice none 0 0,.slice none 0 0,.slice none 0 0,.slice none 0 0],rfl,rfl,⟨[.bool false],[.slice none 0 0,.string ⟨#[]⟩,.string ⟨#[]⟩,.slice none 0 0,.slice none 0 0,.slice none 0 0,.slice none 0 0],rfl,rfl,⟨[.slice none 0 0],[.string ⟨#[]⟩,.string ⟨#[]⟩,.slice none 0 0,.slice none 0 0,.slice none 0 0,.slice none 0 0],rfl,⟨none,0,rfl,gu _,jv _,.inl rfl⟩,⟨[.string ⟨#[]⟩,.string ⟨#[]⟩],[.slice none 0 0,.slice none 0 0,.slice none 0 0,.slice none 0 0],rfl,zF _,⟨[.slice none 0 0],[.slice none 0 0,.slice none 0 0,.slice none 0 0],rfl,⟨none,0,rfl,gu _,jv _,.inl rfl⟩,⟨[.slice none 0 0],[.slice none 0 0,.slice none 0 0],rfl,qj _,⟨[.slice none 0 0],[.slice none 0 0],rfl,qj _,⟨none,0,rfl,gu _,jv _,.inl rfl⟩⟩⟩⟩⟩⟩⟩⟩
structure kZ where
 first:Int
 depth:Int
 deriving DecidableEq,Inhabited
def ie:Rp kZ:=j4 (bS (rI .i64) (rI .i64)) (fun x=>(x.first,x.depth))
def Hs:ju ie 0 (rI .i64) (fun x=>x.first):=(cw bq)
def Gz:fm ie 0 (rI .i64) (fun x y=>{x with first:=y}):=bB cE (fun _ _=>rfl)
def xa:ju ie 1 (rI .i64) (fun x=>x.depth):=(aq bq rfl)
def Gy:fm ie 1 (rI .i64) (fun x y=>{x with depth:=y}):=bB (ax ak rfl) (fun _ _=>rfl)
def Lt: ∀S,ie.rc S [.int .i64 0,.int .i64 0] ((⟨(0:Int),(0:Int)⟩:kZ)):=fun _=>⟨[.int .i64 0],[.int .i64 0],rfl,rfl,rfl⟩
structure rQ where
 Name:cj
 Number:Int
 Desc:Bool
 deriving DecidableEq,Inhabited
def jG:Rp rQ:=j4 (bS rS (bS (rI .i64) rB)) (fun x=>(x.Name,x.Number,x.Desc))
def za:ju jG 0 rS (fun x=>x.Name):=(cw bq)
def y9:ju jG 1 (rI .i64) (fun x=>x.Number):=(cw (aq bq rfl))
def T5:fm jG 1 (rI .i64) (fun x y=>{x with Number:=y}):=bB (ax cE rfl) (fun _ _=>rfl)
def UZ:ju jG 2 rB (fun x=>x.Desc):=(aq (aq bq rfl) rfl)
def NI: ∀S,jG.rc S [.string ⟨#[]⟩,.int .i64 0,.bool false] ((⟨[],(0:Int),false⟩:rQ)):=fun _=>⟨[.string ⟨#[]⟩],[.int .i64 0,.bool false],rfl,rfl,⟨[.int .i64 0],[.bool false],rfl,rfl,rfl⟩⟩
structure be where
 Selects:(List ae)
 Keys:(List rQ)
 Limit:Int
 deriving DecidableEq,Inhabited
def bk:Rp be:=j4 (bS (fJ aR) (bS (fJ jG) (rI .i64))) (fun x=>(x.Selects,x.Keys,x.Limit))
def pQ:ju bk 0 (fJ aR) (fun x=>x.Selects):=(cw bq)
def N9:fm bk 0 (fJ aR) (fun x y=>{x with Selects:=y}):=bB cE (fun _ _=>rfl)
def pP:ju bk 1 (fJ jG) (fun x=>x.Keys):=(cw (aq bq rfl))
def N8:fm bk 1 (fJ jG) (fun x y=>{x with Keys:=y}):=bB (ax cE rfl) (fun _ _=>rfl)
def BE:ju bk 2 (rI .i64) (fun x=>x.Limit):=(aq (aq bq rfl) rfl)
def N7:fm bk 2 (rI .i64) (fun x y=>{x with Limit:=y}):=bB (ax (ax ak rfl) rfl) (fun _ _=>rfl)
def wb: ∀S,bk.rc S [.slice none 0 0,.slice none 0 0,.int .i64 0] ((⟨[],[],(0:Int)⟩:be)):=fun _=>⟨[.slice none 0 0],[.slice none 0 0,.int .i64 0],rfl,⟨none,0,rfl,gu _,jv _,.inl rfl⟩,⟨[.slice none 0 0],[.int .i64 0],rfl,⟨none,0,rfl,gu _,jv _,.inl rfl⟩,rfl⟩⟩
structure ap where
 Tag:Int
 L:Int
 R:Int
 Col:Int
 Value:cr
 deriving DecidableEq,Inhabited
def bK:Rp ap:=j4 (bS (rI .i64) (bS (rI .i64) (bS (rI .i64) (bS (rI .i64) eY)))) (fun x=>(x.Tag,x.L,x.R,x.Col,x.Value))
def kX:ju bK 0 (rI .i64) (fun x=>x.Tag):=(cw bq)
def ru:fm bK 0 (rI .i64) (fun x y=>{x with Tag:=y}):=bB cE (fun _ _=>rfl)
def xe:ju bK 1 (rI .i64) (fun x=>x.L):=(cw (aq bq rfl))
def GD:fm bK 1 (rI .i64) (fun x y=>{x with L:=y}):=bB (ax cE rfl) (fun _ _=>rfl)
def xd:ju bK 2 (rI .i64) (fun x=>x.R):=(cw (aq (aq bq rfl) rfl))
def GC:fm bK 2 (rI .i64) (fun x y=>{x with R:=y}):=bB (ax (ax cE rfl) rfl) (fun _ _=>rfl)
def ol:ju bK 3 (rI .i64) (fun x=>x.Col):=(cw (aq (aq (aq bq rfl) rfl) rfl))
def Bo:fm bK 3 (rI .i64) (fun x y=>{x with Col:=y}):=bB (ax (ax (ax cE rfl) rfl) rfl) (fun _ _=>rfl)
def uM:ju bK 4 eY (fun x=>x.Value):=(aq (aq (aq (aq bq rfl) rfl) rfl) rfl)
def Oa:fm bK 4 eY (fun x y=>{x with Value:=y}):=bB (ax (ax (ax (ax ak rfl) rfl) rfl) rfl) (fun _ _=>rfl)
def pf: ∀S,bK.rc S [.int .i64 0,.int .i64 0,.int .i64 0,.int .i64 0,.int .i64 0,.int .i64 0,.int .u64 0,.string ⟨#[]⟩] ((⟨(0:Int),(0:Int),(0:Int),(0:Int),(⟨(0:Int),(0:Int),(0:Int),[]⟩:cr)⟩:ap)):=fun _=>⟨[.int .i64 0],[.int .i64 0,.int .i64 0,.int .i64 0,.int .i64 0,.int .i64 0,.int .u64 0,.string ⟨#[]⟩],rfl,rfl,⟨[.int .i64 0],[.int .i64 0,.int .i64 0,.int .i64 0,.int .i64 0,.int .u64 0,.string ⟨#[]⟩],rfl,rfl,⟨[.int .i64 0],[.int .i64 0,.int .i64 0,.int .i64 0,.int .u64 0,.string ⟨#[]⟩],rfl,rfl,⟨[.int .i64 0],[.int .i64 0,.int .i64 0,.int .u64 0,.string ⟨#[]⟩],rfl,rfl,uo _⟩⟩⟩⟩
structure aA where
 Nodes:(List ap)
 deriving DecidableEq,Inhabited
def ah:Rp aA:=j4 (fJ bK) (fun x=>(x.Nodes))
def rF:ju ah 0 (fJ bK) (fun x=>x.Nodes):=bq
def R6:fm ah 0 (fJ bK) (fun x y=>{x with Nodes:=y}):=bB ak (fun _ _=>rfl)
def fx: ∀S,ah.rc S [.slice none 0 0] ((⟨[]⟩:aA)):=fun _=>⟨none,0,rfl,gu _,jv _,.inl rfl⟩
structure eS where
 Left:Bool
 On:aA
 deriving DecidableEq,Inhabited
def aM:Rp eS:=j4 (bS rB ah) (fun x=>(x.Left,x.On))
def Hx:ju aM 0 rB (fun x=>x.Left):=(cw bq)
def Od:fm aM 0 rB (fun x y=>{x with Left:=y}):=bB cE (fun _ _=>rfl)
def Hw:ju aM 1 ah (fun x=>x.On):=(aq bq rfl)
def Oc:fm aM 1 ah (fun x y=>{x with On:=y}):=bB (ax ak rfl) (fun _ _=>rfl)
def Ge: ∀S,aM.rc S [.bool false,.slice none 0 0] ((⟨false,(⟨[]⟩:aA)⟩:eS)):=fun _=>⟨[.bool false],[.slice none 0 0],rfl,rfl,fx _⟩
structure gj where
 Tag:Int
 Arg:aA
 deriving DecidableEq,Inhabited
def bg:Rp gj:=j4 (bS (rI .i64) ah) (fun x=>(x.Tag,x.Arg))
def sG:ju bg 0 (rI .i64) (fun x=>x.Tag):=(cw bq)
def T7:fm bg 0 (rI .i64) (fun x y=>{x with Tag:=y}):=bB cE (fun _ _=>rfl)
def zb:ju bg 1 ah (fun x=>x.Arg):=(aq bq rfl)
def T6:fm bg 1 ah (fun x y=>{x with Arg:=y}):=bB (ax ak rfl) (fun _ _=>rfl)
def J0: ∀S,bg.rc S [.int .i64 0,.slice none 0 0] ((⟨(0:Int),(⟨[]⟩:aA)⟩:gj)):=fun _=>⟨[.int .i64 0],[.slice none 0 0],rfl,rfl,fx _⟩
structure aF where
 Tables:(List Int)
 Joins:(List eS)
 Where:aA
 Having:aA
 Grouped:Bool
 Distinct:Bool
 Keys:(List Int)
 Aggs:(List gj)
 Items:(List aA)
 deriving DecidableEq,Inhabited
def bU:Rp aF:=j4 (bS (fJ (rI .i64)) (bS (fJ aM) (bS ah (bS ah (bS rB (bS rB (bS (fJ (rI .i64)) (bS (fJ bg) (fJ ah))))))))) (fun x=>(x.Tables,x.Joins,x.Where,x.Having,x.Grouped,x.Distinct,x.Keys,x.Aggs,x.Items))
def C6:ju bU 0 (fJ (rI .i64)) (fun x=>x.Tables):=(cw bq)
def Kp:fm bU 0 (fJ (rI .i64)) (fun x y=>{x with Tables:=y}):=bB cE (fun _ _=>rfl)
def C5:ju bU 1 (fJ aM) (fun x=>x.Joins):=(cw (aq bq rfl))
def Ko:fm bU 1 (fJ aM) (fun x y=>{x with Joins:=y}):=bB (ax cE rfl) (fun _ _=>rfl)
def C4:ju bU 2 ah (fun x=>x.Where):=(cw (aq (aq bq rfl) rfl))
def Kn:fm bU 2 ah (fun x y=>{x with Where:=y}):=bB (ax (ax cE rfl) rfl) (fun _ _=>rfl)
def C3:ju bU 3 ah (fun x=>x.Having):=(cw (aq (aq (aq bq rfl) rfl) rfl))
def Km:fm bU 3 ah (fun x y=>{x with Having:=y}):=bB (ax (ax (ax cE rfl) rfl) rfl) (fun _ _=>rfl)
def oQ:ju bU 4 rB (fun x=>x.Grouped):=(cw (aq (aq (aq (aq bq rfl) rfl) rfl) rfl))
def Kl:fm bU 4 rB (fun x y=>{x with Grouped:=y}):=bB (ax (ax (ax (ax cE rfl) rfl) rfl) rfl) (fun _ _=>rfl)
def C2:ju bU 5 rB (fun x=>x.Distinct):=(cw (aq (aq (aq (aq (aq bq rfl) rfl) rfl) rfl) rfl))
def Kk:fm bU 5 rB (fun x y=>{x with Distinct:=y}):=bB (ax (ax (ax (ax (ax cE rfl) rfl) rfl) rfl) rfl) (fun _ _=>rfl)
def C1:ju bU 6 (fJ (rI .i64)) (fun x=>x.Keys):=(cw (aq (aq (aq (aq (aq (aq bq rfl) rfl) rfl) rfl) rfl) rfl))
def Kj:fm bU 6 (fJ (rI .i64)) (fun x y=>{x with Keys:=y}):=bB (ax (ax (ax (ax (ax (ax cE rfl) rfl) rfl) rfl) rfl) rfl) (fun _ _=>rfl)
def C0:ju bU 7 (fJ bg) (fun x=>x.Aggs):=(cw (aq (aq (aq (aq (aq (aq (aq bq rfl) rfl) rfl) rfl) rfl) rfl) rfl))
def Ki:fm bU 7 (fJ bg) (fun x y=>{x with Aggs:=y}):=bB (ax (ax (ax (ax (ax (ax (ax cE rfl) rfl) rfl) rfl) rfl) rfl) rfl) (fun _ _=>rfl)
def xg:ju bU 8 (fJ ah) (fun x=>x.Items):=(aq (aq (aq (aq (aq (aq (aq (aq bq rfl) rfl) rfl) rfl) rfl) rfl) rfl) rfl)
def CA:fm bU 8 (fJ ah) (fun x y=>{x with Items:=y}):=bB (ax (ax (ax (ax (ax (ax (ax (ax ak rfl) rfl) rfl) rfl) rfl) rfl) rfl) rfl) (fun _ _=>rfl)
def Bc: ∀S,bU.rc S [.slice none 0 0,.slice none 0 0,.slice none 0 0,.slice none 0 0,.bool false,.bool false,.slice none 0 0,.slice none 0 0,.slice none 0 0] ((⟨[],[],(⟨[]⟩:aA),(⟨[]⟩:aA),false,false,[],[],[]⟩:aF)):=fun _=>⟨[.slice none 0 0],[.slice none 0 0,.slice none 0 0,.slice none 0 0,.bool false,.bool false,.slice none 0 0,.slice none 0 0,.slice none 0 0],rfl,⟨none,0,rfl,gu _,jv _,.inl rfl⟩,⟨[.slice none 0 0],[.slice none 0 0,.slice none 0 0,.bool false,.bool false,.slice none 0 0,.slice none 0 0,.slice none 0 0],rfl,⟨none,0,rfl,gu _,jv _,.inl rfl⟩,⟨[.slice none 0 0],[.slice none 0 0,.bool false,.bool false,.slice none 0 0,.slice none 0 0,.slice none 0 0],rfl,fx _,⟨[.slice none 0 0],[.bool false,.bool false,.slice none 0 0,.slice none 0 0,.slice none 0 0],rfl,fx _,⟨[.bool false],[.bool false,.slice none 0 0,.slice none 0 0,.slice none 0 0],rfl,rfl,⟨[.bool false],[.slice none 0 0,.slice none 0 0,.slice none 0 0],rfl,rfl,⟨[.slice none 0 0],[.slice none 0 0,.slice none 0 0],rfl,⟨none,0,rfl,gu _,jv _,.inl rfl⟩,⟨[.slice none 0 0],[.slice none 0 0],rfl,⟨none,0,rfl,gu _,jv _,.inl rfl⟩,⟨none,0,rfl,gu _,jv _,.inl rfl⟩⟩⟩⟩⟩⟩⟩⟩⟩
structure ac where
 Catalog:aw
 from_:ae
 out:aF
 called:(List (cj×Bool))
 alone:(List (cj×(List Int)))
 behind:(List ((cj×cj)×Int))
 kinds:(List Int)
 groups:(List Int)
 at_:Int
 deriving DecidableEq,Inhabited
def aD:Rp ac:=j4 (bS cn (bS aR (bS bU (bS (Se:Rp (List (cj×Bool))) (bS (Se:Rp (List (cj×(List Int)))) (bS (Se:Rp (List ((cj×cj)×Int))) (bS (fJ (rI .i64)) (bS (fJ (rI .i64)) (rI .i64))))))))) (fun x=>(x.Catalog,x.from_,x.out,x.called,x.alone,x.behind,x.kinds,x.groups,x.at_))
def BB:ju aD 0 cn (fun x=>x.Catalog):=(cw bq)
def ji:ju aD 1 aR (fun x=>x.from_):=(cw (aq bq rfl))
def iK:ju aD 10 bU (fun x=>x.out):=(cw (aq (aq bq rfl) rfl))
def lM:fm aD 10 bU (fun x y=>{x with out:=y}):=bB (ax (ax cE rfl) rfl) (fun _ _=>rfl)
def N4:fm aD 22 (fJ (rI .i64)) (fun x y=>{x with kinds:=y}):=bB (ax (ax (ax (ax (ax (ax cE rfl) rfl) rfl) rfl) rfl) rfl) (fun _ _=>rfl)
def Gx:fm aD 23 (fJ (rI .i64)) (fun x y=>{x with groups:=y}):=bB (ax (ax (ax (ax (ax (ax (ax cE rfl) rfl) rfl) rfl) rfl) rfl) rfl) (fun _ _=>rfl)
def Hr:ju aD 24 (rI .i64) (fun x=>x.at_):=(aq (aq (aq (aq (aq (aq (aq (aq bq rfl) rfl) rfl) rfl) rfl) rfl) rfl) rfl)
def rt:fm aD 24 (rI .i64) (fun x y=>{x with at_:=y}):=bB (ax (ax (ax (ax (ax (ax (ax (ax ak rfl) rfl) rfl) rfl) rfl) rfl) rfl) rfl) (fun _ _=>rfl)
structure xD where
 Col:Int
 Desc:Bool
 deriving DecidableEq,Inhabited
def kB:Rp xD:=j4 (bS (rI .i64) rB) (fun x=>(x.Col,x.Desc))
def UY:ju kB 0 (rI .i64) (fun x=>x.Col):=(cw bq)
def T4:fm kB 0 (rI .i64) (fun x y=>{x with Col:=y}):=bB cE (fun _ _=>rfl)
def UX:ju kB 1 rB (fun x=>x.Desc):=(aq bq rfl)
def T0:fm kB 1 rB (fun x y=>{x with Desc:=y}):=bB (ax ak rfl) (fun _ _=>rfl)
def Ym: ∀S,kB.rc S [.int .i64 0,.bool false] ((⟨(0:Int),false⟩:xD)):=fun _=>⟨[.int .i64 0],[.bool false],rfl,rfl,rfl⟩
structure bf where
 Selects:(List aF)
 Names:(List cj)
 Kinds:(List Int)
 Order:(List xD)
 Limit:Int
 deriving DecidableEq,Inhabited
def cP:Rp bf:=j4 (bS (fJ bU) (bS (fJ rS) (bS (fJ (rI .i64)) (bS (fJ kB) (rI .i64))))) (fun x=>(x.Selects,x.Names,x.Kinds,x.Order,x.Limit))
def BG:ju cP 0 (fJ bU) (fun x=>x.Selects):=(cw bq)
def xf:ju cP 1 (fJ rS) (fun x=>x.Names):=(cw (aq bq rfl))
def BF:ju cP 2 (fJ (rI .i64)) (fun x=>x.Kinds):=(cw (aq (aq bq rfl) rfl))
def Hv:ju cP 3 (fJ kB) (fun x=>x.Order):=(cw (aq (aq (aq bq rfl) rfl) rfl))
def Hu:ju cP 4 (rI .i64) (fun x=>x.Limit):=(aq (aq (aq (aq bq rfl) rfl) rfl) rfl)
def pg: ∀S,cP.rc S [.slice none 0 0,.slice none 0 0,.slice none 0 0,.slice none 0 0,.int .i64 0] ((⟨[],[],[],[],(0:Int)⟩:bf)):=fun _=>⟨[.slice none 0 0],[.slice none 0 0,.slice none 0 0,.slice none 0 0,.int .i64 0],rfl,⟨none,0,rfl,gu _,jv _,.inl rfl⟩,⟨[.slice none 0 0],[.slice none 0 0,.slice none 0 0,.int .i64 0],rfl,⟨none,0,rfl,gu _,jv _,.inl rfl⟩,⟨[.slice none 0 0],[.slice none 0 0,.int .i64 0],rfl,⟨none,0,rfl,gu _,jv _,.inl rfl⟩,⟨[.slice none 0 0],[.int .i64 0],rfl,⟨none,0,rfl,gu _,jv _,.inl rfl⟩,rfl⟩⟩⟩⟩
structure Ie where
 Tables:Value
def jd:Rp Ie:=j4 rV (fun x=>(x.Tables))
def qJ:ju jd 0 rV (fun x=>x.Tables):=bq
def Gw:fm jd 0 rV (fun x y=>{x with Tables:=y}):=bB ak (fun _ _=>rfl)
def kE(y:aw)(v0:Value):Ie:=⟨v0⟩
def Cj: ∀S,jd.rc S [.slice none 0 0] (kE ((⟨[]⟩:aw)) (Y none 0 0)):=fun _=>⟨rfl,rfl⟩
structure No where
 Selects:Value
 Keys:(List rQ)
 Limit:Int
def cH:Rp No:=j4 (bS rV (bS (fJ jG) (rI .i64))) (fun x=>(x.Selects,x.Keys,x.Limit))
def oO:ju cH 0 rV (fun x=>x.Selects):=(cw bq)
def Cz:fm cH 1 (fJ jG) (fun x y=>{x with Keys:=y}):=bB (ax cE rfl) (fun _ _=>rfl)
def dd(y:be)(v0:Value):No:=⟨v0,y.Keys,y.Limit⟩
def NH: ∀S,cH.rc S [.slice none 0 0,.slice none 0 0,.int .i64 0] (dd ((⟨[],[],(0:Int)⟩:be)) (Y none 0 0)):=fun _=>⟨[.slice none 0 0],[.slice none 0 0,.int .i64 0],rfl,⟨rfl,rfl⟩,⟨[.slice none 0 0],[.int .i64 0],rfl,⟨none,0,rfl,gu _,jv _,.inl rfl⟩,rfl⟩⟩
structure Dr where
 Selects:Value
 Names:(List cj)
 Kinds:Value
 Order:Value
 Limit:Int
def cF:Rp Dr:=j4 (bS rV (bS (fJ rS) (bS rV (bS rV (rI .i64))))) (fun x=>(x.Selects,x.Names,x.Kinds,x.Order,x.Limit))
def Em:ju cF 0 rV (fun x=>x.Selects):=(cw bq)
def El:ju cF 1 (fJ rS) (fun x=>x.Names):=(cw (aq bq rfl))
def DQ:fm cF 1 (fJ rS) (fun x y=>{x with Names:=y}):=bB (ax cE rfl) (fun _ _=>rfl)
def Ek:ju cF 2 rV (fun x=>x.Kinds):=(cw (aq (aq bq rfl) rfl))
def Ej:ju cF 3 rV (fun x=>x.Order):=(cw (aq (aq (aq bq rfl) rfl) rfl))
def DP:fm cF 4 (rI .i64) (fun x y=>{x with Limit:=y}):=bB (ax (ax (ax (ax ak rfl) rfl) rfl) rfl) (fun _ _=>rfl)
def dO(y:bf)(v0:Value)(v2:Value)(v3:Value):Dr:=⟨v0,y.Names,v2,v3,y.Limit⟩
def yw: ∀S,cF.rc S [.slice none 0 0,.slice none 0 0,.slice none 0 0,.slice none 0 0,.int .i64 0] (dO ((⟨[],[],[],[],(0:Int)⟩:bf)) (Y none 0 0) (Y none 0 0) (Y none 0 0)):=fun _=>⟨[.slice none 0 0],[.slice none 0 0,.slice none 0 0,.slice none 0 0,.int .i64 0],rfl,⟨rfl,rfl⟩,⟨[.slice none 0 0],[.slice none 0 0,.slice none 0 0,.int .i64 0],rfl,⟨none,0,rfl,gu _,jv _,.inl rfl⟩,⟨[.slice none 0 0],[.slice none 0 0,.int .i64 0],rfl,⟨rfl,rfl⟩,⟨[.slice none 0 0],[.int .i64 0],rfl,⟨rfl,rfl⟩,rfl⟩⟩⟩⟩
structure Ru where
 Nodes:Value
def eu:Rp Ru:=j4 rV (fun x=>(x.Nodes))
def p4:ju eu 0 rV (fun x=>x.Nodes):=bq
def E0:fm eu 0 rV (fun x y=>{x with Nodes:=y}):=bB ak (fun _ _=>rfl)
def fD(y:bT)(v0:Value):Ru:=⟨v0⟩
def wa: ∀S,eu.rc S [.slice none 0 0] (fD ((⟨[]⟩:bT)) (Y none 0 0)):=fun _=>⟨rfl,rfl⟩
structure JT where
 Distinct:Bool
 Star:Bool
 Items:Value
 From:ci
 Joins:(List g9)
 Where:bT
 Having:bT
 Group:(List gk)
def E2:Rp JT:=j4 (bS rB (bS rB (bS rV (bS fS (bS (fJ cz) (bS aX (bS aX (fJ cK)))))))) (fun x=>(x.Distinct,x.Star,x.Items,x.From,x.Joins,x.Where,x.Having,x.Group))
def Fa(y:ae)(v2:Value):JT:=⟨y.Distinct,y.Star,v2,y.From,y.Joins,y.Where,y.Having,y.Group⟩
structure Fm where
 Distinct:Bool
 Star:Bool
 Items:Value
 From:ci
 Joins:Value
 Where:bT
 Having:bT
 Group:(List gk)
def AK:Rp Fm:=j4 (bS rB (bS rB (bS rV (bS fS (bS rV (bS aX (bS aX (fJ cK)))))))) (fun x=>(x.Distinct,x.Star,x.Items,x.From,x.Joins,x.Where,x.Having,x.Group))
def AV(y:ae)(v2:Value)(v4:Value):Fm:=⟨y.Distinct,y.Star,v2,y.From,v4,y.Where,y.Having,y.Group⟩
structure eX where
 Distinct:Bool
 Star:Bool
 Items:Value
 From:ci
 Joins:Value
 Where:bT
 Having:bT
 Group:Value
def av:Rp eX:=j4 (bS rB (bS rB (bS rV (bS fS (bS rV (bS aX (bS aX rV))))))) (fun x=>(x.Distinct,x.Star,x.Items,x.From,x.Joins,x.Where,x.Having,x.Group))
def ka:ju av 2 rV (fun x=>x.Items):=(cw (aq (aq bq rfl) rfl))
def vr:ju av 3 fS (fun x=>x.From):=(cw (aq (aq (aq bq rfl) rfl) rfl))
def Cy:fm av 3 fS (fun x y=>{x with From:=y}):=bB (ax (ax (ax cE rfl) rfl) rfl) (fun _ _=>rfl)
def im:ju av 5 rV (fun x=>x.Joins):=(cw (aq (aq (aq (aq bq rfl) rfl) rfl) rfl))
def qI:ju av 6 aX (fun x=>x.Where):=(cw (aq (aq (aq (aq (aq bq rfl) rfl) rfl) rfl) rfl))
def qr:fm av 6 aX (fun x y=>{x with Where:=y}):=bB (ax (ax (ax (ax (ax cE rfl) rfl) rfl) rfl) rfl) (fun _ _=>rfl)
def qH:ju av 7 aX (fun x=>x.Having):=(cw (aq (aq (aq (aq (aq (aq bq rfl) rfl) rfl) rfl) rfl) rfl))
def qq:fm av 7 aX (fun x y=>{x with Having:=y}):=bB (ax (ax (ax (ax (ax (ax cE rfl) rfl) rfl) rfl) rfl) rfl) (fun _ _=>rfl)
def vq:ju av 8 rV (fun x=>x.Group):=(aq (aq (aq (aq (aq (aq (aq bq rfl) rfl) rfl) rfl) rfl) rfl) rfl)
def cA(y:ae)(v2:Value)(v4:Value)(v7:Value):eX:=⟨y.Distinct,y.Star,v2,y.From,v4,y.Where,y.Having,v7⟩
def xF: ∀S,av.rc S [.bool false,.bool false,.slice none 0 0,.string ⟨#[]⟩,.string ⟨#[]⟩,.slice none 0 0,.slice none 0 0,.slice none 0 0,.slice none 0 0] (cA ((⟨false,false,[],(⟨[],[]⟩:ci),[],(⟨[]⟩:bT),(⟨[]⟩:bT),[]⟩:ae)) (Y none 0 0) (Y none 0 0) (Y none 0 0)):=fun _=>⟨[.bool false],[.bool false,.slice none 0 0,.string ⟨#[]⟩,.string ⟨#[]⟩,.slice none 0 0,.slice none 0 0,.slice none 0 0,.slice none 0 0],rfl,rfl,⟨[.bool false],[.slice none 0 0,.string ⟨#[]⟩,.string ⟨#[]⟩,.slice none 0 0,.slice none 0 0,.slice none 0 0,.slice none 0 0],rfl,rfl,⟨[.slice none 0 0],[.string ⟨#[]⟩,.string ⟨#[]⟩,.slice none 0 0,.slice none 0 0,.slice none 0 0,.slice none 0 0],rfl,⟨rfl,rfl⟩,⟨[.string ⟨#[]⟩,.string ⟨#[]⟩],[.slice none 0 0,.slice none 0 0,.slice none 0 0,.slice none 0 0],rfl,zF _,⟨[.slice none 0 0],[.slice none 0 0,.slice none 0 0,.slice none 0 0],rfl,⟨rfl,rfl⟩,⟨[.slice none 0 0],[.slice none 0 0,.slice none 0 0],rfl,qj _,⟨[.slice none 0 0],[.slice none 0 0],rfl,qj _,⟨rfl,rfl⟩⟩⟩⟩⟩⟩⟩⟩
structure Dq where
 Catalog:aw
 from_:ae
 out:aF
 called:Value
 alone:Value
 behind:Value
 kinds:(List Int)
 groups:(List Int)
 at_:Int
def gn:Rp Dq:=j4 (bS cn (bS aR (bS bU (bS rV (bS rV (bS rV (bS (fJ (rI .i64)) (bS (fJ (rI .i64)) (rI .i64))))))))) (fun x=>(x.Catalog,x.from_,x.out,x.called,x.alone,x.behind,x.kinds,x.groups,x.at_))
def DO:fm gn 0 cn (fun x y=>{x with Catalog:=y}):=bB cE (fun _ _=>rfl)
def DN:fm gn 1 aR (fun x y=>{x with from_:=y}):=bB (ax cE rfl) (fun _ _=>rfl)
def Ei:ju gn 19 rV (fun x=>x.called):=(cw (aq (aq (aq bq rfl) rfl) rfl))
def DM:fm gn 19 rV (fun x y=>{x with called:=y}):=bB (ax (ax (ax cE rfl) rfl) rfl) (fun _ _=>rfl)
def Eh:ju gn 20 rV (fun x=>x.alone):=(cw (aq (aq (aq (aq bq rfl) rfl) rfl) rfl))
def DL:fm gn 20 rV (fun x y=>{x with alone:=y}):=bB (ax (ax (ax (ax cE rfl) rfl) rfl) rfl) (fun _ _=>rfl)
def Eg:ju gn 21 rV (fun x=>x.behind):=(cw (aq (aq (aq (aq (aq bq rfl) rfl) rfl) rfl) rfl))
def DK:fm gn 21 rV (fun x y=>{x with behind:=y}):=bB (ax (ax (ax (ax (ax cE rfl) rfl) rfl) rfl) rfl) (fun _ _=>rfl)
def qG(y:ac)(v3:Value)(v4:Value)(v5:Value):Dq:=⟨y.Catalog,y.from_,y.out,v3,v4,v5,y.kinds,y.groups,y.at_⟩
def Gd: ∀S,gn.rc S [.slice none 0 0,.bool false,.bool false,.slice none 0 0,.string ⟨#[]⟩,.string ⟨#[]⟩,.slice none 0 0,.slice none 0 0,.slice none 0 0,.slice none 0 0,.slice none 0 0,.slice none 0 0,.slice none 0 0,.slice none 0 0,.bool false,.bool false,.slice none 0 0,.slice none 0 0,.slice none 0 0,.map none,.map none,.map none,.slice none 0 0,.slice none 0 0,.int .i64 0] (qG ((⟨(⟨[]⟩:aw),(⟨false,false,[],(⟨[],[]⟩:ci),[],(⟨[]⟩:bT),(⟨[]⟩:bT),[]⟩:ae),(⟨[],[],(⟨[]⟩:aA),(⟨[]⟩:aA),false,false,[],[],[]⟩:aF),[],[],[],[],[],(0:Int)⟩:ac)) (.map none) (.map none) (.map none)):=fun _=>⟨[.slice none 0 0],[.bool false,.bool false,.slice none 0 0,.string ⟨#[]⟩,.string ⟨#[]⟩,.slice none 0 0,.slice none 0 0,.slice none 0 0,.slice none 0 0,.slice none 0 0,.slice none 0 0,.slice none 0 0,.slice none 0 0,.bool false,.bool false,.slice none 0 0,.slice none 0 0,.slice none 0 0,.map none,.map none,.map none,.slice none 0 0,.slice none 0 0,.int .i64 0],rfl,rp _,⟨[.bool false,.bool false,.slice none 0 0,.string ⟨#[]⟩,.string ⟨#[]⟩,.slice none 0 0,.slice none 0 0,.slice none 0 0,.slice none 0 0],[.slice none 0 0,.slice none 0 0,.slice none 0 0,.slice none 0 0,.bool false,.bool false,.slice none 0 0,.slice none 0 0,.slice none 0 0,.map none,.map none,.map none,.slice none 0 0,.slice none 0 0,.int .i64 0],rfl,DB _,⟨[.slice none 0 0,.slice none 0 0,.slice none 0 0,.slice none 0 0,.bool false,.bool false,.slice none 0 0,.slice none 0 0,.slice none 0 0],[.map none,.map none,.map none,.slice none 0 0,.slice none 0 0,.int .i64 0],rfl,Bc _,⟨[.map none],[.map none,.map none,.slice none 0 0,.slice none 0 0,.int .i64 0],rfl,⟨rfl,rfl⟩,⟨[.map none],[.map none,.slice none 0 0,.slice none 0 0,.int .i64 0],rfl,⟨rfl,rfl⟩,⟨[.map none],[.slice none 0 0,.slice none 0 0,.int .i64 0],rfl,⟨rfl,rfl⟩,⟨[.slice none 0 0],[.slice none 0 0,.int .i64 0],rfl,⟨none,0,rfl,gu _,jv _,.inl rfl⟩,⟨[.slice none 0 0],[.int .i64 0],rfl,⟨none,0,rfl,gu _,jv _,.inl rfl⟩,rfl⟩⟩⟩⟩⟩⟩⟩⟩
def Db{S:SH}{cs:List Value}{y:aw}{v0:Value}{xs0:(List bR)}(k0:(fJ di).rc S [v0] xs0)(h:jd.rc S cs (kE y v0)):cn.rc S cs ((⟨xs0⟩:aw)):=by
 have h0:=h
 exact(by rw [h0.1];exact k0)
def xQ{S:SH}{cs:List Value}{y:be}{v0:Value}{xs0:(List ae)}(k0:(fJ aR).rc S [v0] xs0)(h:cH.rc S cs (dd y v0)):bk.rc S cs ((⟨xs0,y.Keys,y.Limit⟩:be)):=by
 obtain⟨a0,b0,e0,h0,a1,b1,e1,A,V⟩:=h
 exact⟨a0,b0,e0,(by rw [h0.1];exact k0),a1,b1,e1,A,V⟩
def Aw{S:SH}{cs:List Value}{y:bf}{v0:Value}{v2:Value}{v3:Value}{xs0:(List aF)}(k0:(fJ bU).rc S [v0] xs0){xs2:(List Int)}(k2:(fJ (rI .i64)).rc S [v2] xs2){xs3:(List xD)}(k3:(fJ kB).rc S [v3] xs3)(h:cF.rc S cs (dO y v0 v2 v3)):cP.rc S cs ((⟨xs0,y.Names,xs2,xs3,y.Limit⟩:bf)):=by
 obtain⟨a0,b0,e0,h0,a1,b1,e1,A,a2,b2,e2,V,a3,b3,e3,h3,h4⟩:=h
 exact⟨a0,b0,e0,(by rw [h0.1];exact k0),a1,b1,e1,A,a2,b2,e2,(by rw [V.1];exact k2),a3,b3,e3,(by rw [h3.1];exact k3),h4⟩
def zq{S:SH}{cs:List Value}{y:bT}{v0:Value}{xs0:(List cx)}(k0:(fJ cd).rc S [v0] xs0)(h:eu.rc S cs (fD y v0)):aX.rc S cs ((⟨xs0⟩:bT)):=by
 have h0:=h
 exact(by rw [h0.1];exact k0)
def om{S:SH}{cs:List Value}{y:ae}{v2:Value}{v4:Value}{v7:Value}{xs2:(List ev)}(k2:(fJ cv).rc S [v2] xs2){xs4:(List g9)}(k4:(fJ cz).rc S [v4] xs4){xs7:(List gk)}(k7:(fJ cK).rc S [v7] xs7)(h:av.rc S cs (cA y v2 v4 v7)):aR.rc S cs ((⟨y.Distinct,y.Star,xs2,y.From,xs4,y.Where,y.Having,xs7⟩:ae)):=by
 obtain⟨a0,b0,e0,h0,a1,b1,e1,A,a2,b2,e2,V,a3,b3,e3,h3,a4,b4,e4,h4,a5,b5,e5,h5,a6,b6,e6,h6,h7⟩:=h
 exact⟨a0,b0,e0,h0,a1,b1,e1,A,a2,b2,e2,(by rw [V.1];exact k2),a3,b3,e3,h3,a4,b4,e4,(by rw [h4.1];exact k4),a5,b5,e5,h5,a6,b6,e6,h6,(by rw [h7.1];exact k7)⟩
def Av{S:SH}{cs:List Value}{y:ac}{v3:Value}{v4:Value}{v5:Value}{xs3:(List (cj×Bool))}(k3:(Se:Rp (List (cj×Bool))).rc S [v3] xs3){xs4:(List (cj×(List Int)))}(k4:(Se:Rp (List (cj×(List Int)))).rc S [v4] xs4){xs5:(List ((cj×cj)×Int))}(k5:(Se:Rp (List ((cj×cj)×Int))).rc S [v5] xs5)(h:gn.rc S cs (qG y v3 v4 v5)):aD.rc S cs ((⟨y.Catalog,y.from_,y.out,xs3,xs4,xs5,y.kinds,y.groups,y.at_⟩:ac)):=by
 obtain⟨a0,b0,e0,h0,a1,b1,e1,A,a2,b2,e2,V,a3,b3,e3,h3,a4,b4,e4,h4,a5,b5,e5,h5,a6,b6,e6,h6,a7,b7,e7,h7,h8⟩:=h
 exact⟨a0,b0,e0,h0,a1,b1,e1,A,a2,b2,e2,V,a3,b3,e3,(by rw [h3.1];exact k3),a4,b4,e4,(by rw [h4.1];exact k4),a5,b5,e5,(by rw [h5.1];exact k5),a6,b6,e6,h6,a7,b7,e7,h7,h8⟩
def uw(y:be)(v:Value):pw bk cH 0 rV (y) v (dd y v):=wF (zL (fB rfl) rfl) rfl
def sY(y:bf)(v2:Value)(v3:Value)(u:Value)(v:Value):pw cF cF 0 rV (dO y u v2 v3) v (dO y v v2 v3):=wF (zL (fB rfl) rfl) rfl
def sX(y:bf)(v0:Value)(v3:Value)(u:Value)(v:Value):pw cF cF 2 rV (dO y v0 u v3) v (dO y v0 v v3):=wF (lc (lc (zL (fB rfl) rfl) rfl) rfl) rfl
def sW(y:bf)(v0:Value)(v2:Value)(u:Value)(v:Value):pw cF cF 3 rV (dO y v0 v2 u) v (dO y v0 v2 v):=wF (lc (lc (lc (zL (fB rfl) rfl) rfl) rfl) rfl) rfl
def th(y:ae)(v:Value):pw aR E2 2 rV (y) v (Fa y v):=wF (lc (lc (zL (fB rfl) rfl) rfl) rfl) rfl
def pW(y:ae)(v2:Value)(v:Value):pw E2 AK 5 rV (Fa y v2) v (AV y v2 v):=wF (lc (lc (lc (lc (zL (fB rfl) rfl) rfl) rfl) rfl) rfl) rfl
def nM(y:ae)(v2:Value)(v4:Value)(v:Value):pw AK av 8 rV (AV y v2 v4) v (cA y v2 v4 v):=wF (lc (lc (lc (lc (lc (lc (lc (fB rfl) rfl) rfl) rfl) rfl) rfl) rfl) rfl) rfl
def dh(b:Nat)(x:ac)(i:OI):List OE:=[bx (rH aD [(10,Y (i.h 0).1 (i.h 0).2 x.out.Tables.length),(11,Y (i.h 1).1 (i.h 1).2 x.out.Joins.length),(16,Y (i.h 2).1 (i.h 2).2 x.out.Keys.length),(17,Y (i.h 3).1 (i.h 3).2 x.out.Aggs.length),(18,Y (i.h 4).1 (i.h 4).2 x.out.Items.length),(22,Y (i.h 5).1 (i.h 5).2 x.kinds.length),(23,Y (i.h 6).1 (i.h 6).2 x.groups.length),(19,au (i.h 7).2),(20,au (i.h 8).2),(21,au (i.h 9).2)]) 103 b x,d (rI .i64) 3 (i.h 0).1 (i.h 0).2 x.out.Tables,d aM 115 (i.h 1).1 (i.h 1).2 x.out.Joins,d (rI .i64) 3 (i.h 2).1 (i.h 2).2 x.out.Keys,d bg 119 (i.h 3).1 (i.h 3).2 x.out.Aggs,d ah 76 (i.h 4).1 (i.h 4).2 x.out.Items,d (rI .i64) 3 (i.h 5).1 (i.h 5).2 x.kinds,d (rI .i64) 3 (i.h 6).1 (i.h 6).2 x.groups,bQ (KB (fun y:Bool=>K rB y)) ez (i.h 7).2 none (i.oss 0) x.called,bQ (X2 (rI .i64) 3) ez (i.h 8).2 none (i.oss 1) x.alone,eQ (fun y:Int=>K (rI .i64) y) kj (i.h 9).2 x.behind]
def aaQ{hb:HL}{y:ac}{v3 v4 v5:Value}{S:SH}{u:Value}(h:(K (rH gn hb) (qG y v3 v4 v5)).p S u)(k3:v3.oneCell' =true)(k4:v4.oneCell' =true)(k5:v5.oneCell' =true):(K (rH aD (hb++[(19,v3),(20,v4),(21,v5)])) (⟨y.Catalog,y.from_,y.out,[],[],[],y.kinds,y.groups,y.at_⟩:ac)).p S u:=by
 obtain⟨cs,e,A,V⟩:=h
 refine⟨cs,e,Av ⟨_,rfl,k3⟩ ⟨_,rfl,k4⟩ ⟨_,rfl,k5⟩ A,fun p hp=>?_⟩
 rcases A6.1 hp with hp|hp
 ·exact V p hp
 ·simp only [f7,List.not_mem_nil,or_false]at hp
  rcases hp with rfl|rfl|rfl
  ·have h3:=UW Ei A
   exact h3
  ·have h3:=UW Eh A
   exact h3
  ·have h3:=UW Eg A
   exact h3
def Y1:(List JU):=[(⟨[98,111,111,108],(1:Int)⟩:JU),(⟨[105,110,116],(2:Int)⟩:JU),(⟨[116,101,120,116],(3:Int)⟩:JU)]
def gm0:((0:Nat),([.string ⟨([98,111,111,108]:List UInt8).toArray⟩,.int .i64 (1),.string ⟨([105,110,116]:List UInt8).toArray⟩,.int .i64 (2),.string ⟨([116,101,120,116]:List UInt8).toArray⟩,.int .i64 (3)]:List Value))∈glob:=by simp [glob]
def gr0: ∀S,(n7 zN 3).rc S ([.string ⟨([98,111,111,108]:List UInt8).toArray⟩,.int .i64 (1),.string ⟨([105,110,116]:List UInt8).toArray⟩,.int .i64 (2),.string ⟨([116,101,120,116]:List UInt8).toArray⟩,.int .i64 (3)]:List Value) Y1:=fun _=>⟨rfl,⟨[.string ⟨([98,111,111,108]:List UInt8).toArray⟩,.int .i64 (1)],[.string ⟨([105,110,116]:List UInt8).toArray⟩,.int .i64 (2),.string ⟨([116,101,120,116]:List UInt8).toArray⟩,.int .i64 (3)],rfl,⟨[.string ⟨([98,111,111,108]:List UInt8).toArray⟩],[.int .i64 (1)],rfl,rfl,rfl⟩,⟨[.string ⟨([105,110,116]:List UInt8).toArray⟩,.int .i64 (2)],[.string ⟨([116,101,120,116]:List UInt8).toArray⟩,.int .i64 (3)],rfl,⟨[.string ⟨([105,110,116]:List UInt8).toArray⟩],[.int .i64 (2)],rfl,rfl,rfl⟩,⟨[.string ⟨([116,101,120,116]:List UInt8).toArray⟩,.int .i64 (3)],[],rfl,⟨[.string ⟨([116,101,120,116]:List UInt8).toArray⟩],[.int .i64 (3)],rfl,rfl,rfl⟩,(rfl:_=[])⟩⟩⟩⟩
def Y0:(List cj):=[[83,69,76,69,67,84],[68,73,83,84,73,78,67,84],[70,82,79,77],[76,69,70,84],[74,79,73,78],[79,78],[87,72,69,82,69],[71,82,79,85,80],[66,89],[72,65,86,73,78,71],[85,78,73,79,78],[65,76,76],[79,82,68,69,82],[76,73,77,73,84],[65,83,67],[68,69,83,67],[65,83],[65,78,68],[79,82],[78,79,84],[73,83],[78,85,76,76],[84,82,85,69],[70,65,76,83,69],[67,79,85,78,84],[83,85,77],[77,73,78],[77,65,88]]
def gm1:((1:Nat),([.string ⟨([83,69,76,69,67,84]:List UInt8).toArray⟩,.string ⟨([68,73,83,84,73,78,67,84]:List UInt8).toArray⟩,.string ⟨([70,82,79,77]:List UInt8).toArray⟩,.string ⟨([76,69,70,84]:List UInt8).toArray⟩,.string ⟨([74,79,73,78]:List UInt8).toArray⟩,.string ⟨([79,78]:List UInt8).toArray⟩,.string ⟨([87,72,69,82,69]:List UInt8).toArray⟩,.string ⟨([71,82,79,85,80]:List UInt8).toArray⟩,.string ⟨([66,89]:List UInt8).toArray⟩,.string ⟨([72,65,86,73,78,71]:List UInt8).toArray⟩,.string ⟨([85,78,73,79,78]:List UInt8).toArray⟩,.string ⟨([65,76,76]:List UInt8).toArray⟩,.string ⟨([79,82,68,69,82]:List UInt8).toArray⟩,.string ⟨([76,73,77,73,84]:List UInt8).toArray⟩,.string ⟨([65,83,67]:List UInt8).toArray⟩,.string ⟨([68,69,83,67]:List UInt8).toArray⟩,.string ⟨([65,83]:List UInt8).toArray⟩,.string ⟨([65,78,68]:List UInt8).toArray⟩,.string ⟨([79,82]:List UInt8).toArray⟩,.string ⟨([78,79,84]:List UInt8).toArray⟩,.string ⟨([73,83]:List UInt8).toArray⟩,.string ⟨([78,85,76,76]:List UInt8).toArray⟩,.string ⟨([84,82,85,69]:List UInt8).toArray⟩,.string ⟨([70,65,76,83,69]:List UInt8).toArray⟩,.string ⟨([67,79,85,78,84]:List UInt8).toArray⟩,.string ⟨([83,85,77]:List UInt8).toArray⟩,.string ⟨([77,73,78]:List UInt8).toArray⟩,.string ⟨([77,65,88]:List UInt8).toArray⟩]:List Value))∈glob:=by simp [glob]
def gr1: ∀S,(n7 rS 28).rc S ([.string ⟨([83,69,76,69,67,84]:List UInt8).toArray⟩,.string ⟨([68,73,83,84,73,78,67,84]:List UInt8).toArray⟩,.string ⟨([70,82,79,77]:List UInt8).toArray⟩,.string ⟨([76,69,70,84]:List UInt8).toArray⟩,.string ⟨([74,79,73,78]:List UInt8).toArray⟩,.string ⟨([79,78]:List UInt8).toArray⟩,.string ⟨([87,72,69,82,69]:List UInt8).toArray⟩,.string ⟨([71,82,79,85,80]:List UInt8).toArray⟩,.string ⟨([66,89]:List UInt8).toArray⟩,.string ⟨([72,65,86,73,78,71]:List UInt8).toArray⟩,.string ⟨([85,78,73,79,78]:List UInt8).toArray⟩,.string ⟨([65,76,76]:List UInt8).toArray⟩,.string ⟨([79,82,68,69,82]:List UInt8).toArray⟩,.string ⟨([76,73,77,73,84]:List UInt8).toArray⟩,.string ⟨([65,83,67]:List UInt8).toArray⟩,.string ⟨([68,69,83,67]:List UInt8).toArray⟩,.string ⟨([65,83]:List UInt8).toArray⟩,.string ⟨([65,78,68]:List UInt8).toArray⟩,.string ⟨([79,82]:List UInt8).toArray⟩,.string ⟨([78,79,84]:List UInt8).toArray⟩,.string ⟨([73,83]:List UInt8).toArray⟩,.string ⟨([78,85,76,76]:List UInt8).toArray⟩,.string ⟨([84,82,85,69]:List UInt8).toArray⟩,.string ⟨([70,65,76,83,69]:List UInt8).toArray⟩,.string ⟨([67,79,85,78,84]:List UInt8).toArray⟩,.string ⟨([83,85,77]:List UInt8).toArray⟩,.string ⟨([77,73,78]:List UInt8).toArray⟩,.string ⟨([77,65,88]:List UInt8).toArray⟩]:List Value) Y0:=fun _=>⟨rfl,⟨[.string ⟨([83,69,76,69,67,84]:List UInt8).toArray⟩],[.string ⟨([68,73,83,84,73,78,67,84]:List UInt8).toArray⟩,.string ⟨([70,82,79,77]:List UInt8).toArray⟩,.string ⟨([76,69,70,84]:List UInt8).toArray⟩,.string ⟨([74,79,73,78]:List UInt8).toArray⟩,.string ⟨([79,78]:List UInt8).toArray⟩,.string ⟨([87,72,69,82,69]:List UInt8).toArray⟩,.string ⟨([71,82,79,85,80]:List UInt8).toArray⟩,.string ⟨([66,89]:List UInt8).toArray⟩,.string ⟨([72,65,86,73,78,71]:List UInt8).toArray⟩,.string ⟨([85,78,73,79,78]:List UInt8).toArray⟩,.string ⟨([65,76,76]:List UInt8).toArray⟩,.string ⟨([79,82,68,69,82]:List UInt8).toArray⟩,.string ⟨([76,73,77,73,84]:List UInt8).toArray⟩,.string ⟨([65,83,67]:List UInt8).toArray⟩,.string ⟨([68,69,83,67]:List UInt8).toArray⟩,.string ⟨([65,83]:List UInt8).toArray⟩,.string ⟨([65,78,68]:List UInt8).toArray⟩,.string ⟨([79,82]:List UInt8).toArray⟩,.string ⟨([78,79,84]:List UInt8).toArray⟩,.string ⟨([73,83]:List UInt8).toArray⟩,.string ⟨([78,85,76,76]:List UInt8).toArray⟩,.string ⟨([84,82,85,69]:List UInt8).toArray⟩,.string ⟨([70,65,76,83,69]:List UInt8).toArray⟩,.string ⟨([67,79,85,78,84]:List UInt8).toArray⟩,.string ⟨([83,85,77]:List UInt8).toArray⟩,.string ⟨([77,73,78]:List UInt8).toArray⟩,.string ⟨([77,65,88]:List UInt8).toArray⟩],rfl,rfl,⟨[.string ⟨([68,73,83,84,73,78,67,84]:List UInt8).toArray⟩],[.string ⟨([70,82,79,77]:List UInt8).toArray⟩,.string ⟨([76,69,70,84]:List UInt8).toArray⟩,.string ⟨([74,79,73,78]:List UInt8).toArray⟩,.string ⟨([79,78]:List UInt8).toArray⟩,.string ⟨([87,72,69,82,69]:List UInt8).toArray⟩,.string ⟨([71,82,79,85,80]:List UInt8).toArray⟩,.string ⟨([66,89]:List UInt8).toArray⟩,.string ⟨([72,65,86,73,78,71]:List UInt8).toArray⟩,.string ⟨([85,78,73,79,78]:List UInt8).toArray⟩,.string ⟨([65,76,76]:List UInt8).toArray⟩,.string ⟨([79,82,68,69,82]:List UInt8).toArray⟩,.string ⟨([76,73,77,73,84]:List UInt8).toArray⟩,.string ⟨([65,83,67]:List UInt8).toArray⟩,.string ⟨([68,69,83,67]:List UInt8).toArray⟩,.string ⟨([65,83]:List UInt8).toArray⟩,.string ⟨([65,78,68]:List UInt8).toArray⟩,.string ⟨([79,82]:List UInt8).toArray⟩,.string ⟨([78,79,84]:List UInt8).toArray⟩,.string ⟨([73,83]:List UInt8).toArray⟩,.string ⟨([78,85,76,76]:List UInt8).toArray⟩,.string ⟨([84,82,85,69]:List UInt8).toArray⟩,.string ⟨([70,65,76,83,69]:List UInt8).toArray⟩,.string ⟨([67,79,85,78,84]:List UInt8).toArray⟩,.string ⟨([83,85,77]:List UInt8).toArray⟩,.string ⟨([77,73,78]:List UInt8).toArray⟩,.string ⟨([77,65,88]:List UInt8).toArray⟩],rfl,rfl,⟨[.string ⟨([70,82,79,77]:List UInt8).toArray⟩],[.string ⟨([76,69,70,84]:List UInt8).toArray⟩,.string ⟨([74,79,73,78]:List UInt8).toArray⟩,.string ⟨([79,78]:List UInt8).toArray⟩,.string ⟨([87,72,69,82,69]:List UInt8).toArray⟩,.string ⟨([71,82,79,85,80]:List UInt8).toArray⟩,.string ⟨([66,89]:List UInt8).toArray⟩,.string ⟨([72,65,86,73,78,71]:List UInt8).toArray⟩,.string ⟨([85,78,73,79,78]:List UInt8).toArray⟩,.string ⟨([65,76,76]:List UInt8).toArray⟩,.string ⟨([79,82,68,69,82]:List UInt8).toArray⟩,.string ⟨([76,73,77,73,84]:List UInt8).toArray⟩,.string ⟨([65,83,67]:List UInt8).toArray⟩,.string ⟨([68,69,83,67]:List UInt8).toArray⟩,.string ⟨([65,83]:List UInt8).toArray⟩,.string ⟨([65,78,68]:List UInt8).toArray⟩,.string ⟨([79,82]:List UInt8).toArray⟩,.string ⟨([78,79,84]:List UInt8).toArray⟩,.string ⟨([73,83]:List UInt8).toArray⟩,.string ⟨([78,85,76,76]:List UInt8).toArray⟩,.string ⟨([84,82,85,69]:List UInt8).toArray⟩,.string ⟨([70,65,76,83,69]:List UInt8).toArray⟩,.string ⟨([67,79,85,78,84]:List UInt8).toArray⟩,.string ⟨([83,85,77]:List UInt8).toArray⟩,.string ⟨([77,73,78]:List UInt8).toArray⟩,.string ⟨([77,65,88]:List UInt8).toArray⟩],rfl,rfl,⟨[.string ⟨([76,69,70,84]:List UInt8).toArray⟩],[.string ⟨([74,79,73,78]:List UInt8).toArray⟩,.string ⟨([79,78]:List UInt8).toArray⟩,.string ⟨([87,72,69,82,69]:List UInt8).toArray⟩,.string ⟨([71,82,79,85,80]:List UInt8).toArray⟩,.string ⟨([66,89]:List UInt8).toArray⟩,.string ⟨([72,65,86,73,78,71]:List UInt8).toArray⟩,.string ⟨([85,78,73,79,78]:List UInt8).toArray⟩,.string ⟨([65,76,76]:List UInt8).toArray⟩,.string ⟨([79,82,68,69,82]:List UInt8).toArray⟩,.string ⟨([76,73,77,73,84]:List UInt8).toArray⟩,.string ⟨([65,83,67]:List UInt8).toArray⟩,.string ⟨([68,69,83,67]:List UInt8).toArray⟩,.string ⟨([65,83]:List UInt8).toArray⟩,.string ⟨([65,78,68]:List UInt8).toArray⟩,.string ⟨([79,82]:List UInt8).toArray⟩,.string ⟨([78,79,84]:List UInt8).toArray⟩,.string ⟨([73,83]:List UInt8).toArray⟩,.string ⟨([78,85,76,76]:List UInt8).toArray⟩,.string ⟨([84,82,85,69]:List UInt8).toArray⟩,.string ⟨([70,65,76,83,69]:List UInt8).toArray⟩,.string ⟨([67,79,85,78,84]:List UInt8).toArray⟩,.string ⟨([83,85,77]:List UInt8).toArray⟩,.string ⟨([77,73,78]:List UInt8).toArray⟩,.string ⟨([77,65,88]:List UInt8).toArray⟩],rfl,rfl,⟨[.string ⟨([74,79,73,78]:List UInt8).toArray⟩],[.string ⟨([79,78]:List UInt8).toArray⟩,.string ⟨([87,72,69,82,69]:List UInt8).toArray⟩,.string ⟨([71,82,79,85,80]:List UInt8).toArray⟩,.string ⟨([66,89]:List UInt8).toArray⟩,.string ⟨([72,65,86,73,78,71]:List UInt8).toArray⟩,.string ⟨([85,78,73,79,78]:List UInt8).toArray⟩,.string ⟨([65,76,76]:List UInt8).toArray⟩,.string ⟨([79,82,68,69,82]:List UInt8).toArray⟩,.string ⟨([76,73,77,73,84]:List UInt8).toArray⟩,.string ⟨([65,83,67]:List UInt8).toArray⟩,.string ⟨([68,69,83,67]:List UInt8).toArray⟩,.string ⟨([65,83]:List UInt8).toArray⟩,.string ⟨([65,78,68]:List UInt8).toArray⟩,.string ⟨([79,82]:List UInt8).toArray⟩,.string ⟨([78,79,84]:List UInt8).toArray⟩,.string ⟨([73,83]:List UInt8).toArray⟩,.string ⟨([78,85,76,76]:List UInt8).toArray⟩,.string ⟨([84,82,85,69]:List UInt8).toArray⟩,.string ⟨([70,65,76,83,69]:List UInt8).toArray⟩,.string ⟨([67,79,85,78,84]:List UInt8).toArray⟩,.string ⟨([83,85,77]:List UInt8).toArray⟩,.string ⟨([77,73,78]:List UInt8).toArray⟩,.string ⟨([77,65,88]:List UInt8).toArray⟩],rfl,rfl,⟨[.string ⟨([79,78]:List UInt8).toArray⟩],[.string ⟨([87,72,69,82,69]:List UInt8).toArray⟩,.string ⟨([71,82,79,85,80]:List UInt8).toArray⟩,.string ⟨([66,89]:List UInt8).toArray⟩,.string ⟨([72,65,86,73,78,71]:List UInt8).toArray⟩,.string ⟨([85,78,73,79,78]:List UInt8).toArray⟩,.string ⟨([65,76,76]:List UInt8).toArray⟩,.string ⟨([79,82,68,69,82]:List UInt8).toArray⟩,.string ⟨([76,73,77,73,84]:List UInt8).toArray⟩,.string ⟨([65,83,67]:List UInt8).toArray⟩,.string ⟨([68,69,83,67]:List UInt8).toArray⟩,.string ⟨([65,83]:List UInt8).toArray⟩,.string ⟨([65,78,68]:List UInt8).toArray⟩,.string ⟨([79,82]:List UInt8).toArray⟩,.string ⟨([78,79,84]:List UInt8).toArray⟩,.string ⟨([73,83]:List UInt8).toArray⟩,.string ⟨([78,85,76,76]:List UInt8).toArray⟩,.string ⟨([84,82,85,69]:List UInt8).toArray⟩,.string ⟨([70,65,76,83,69]:List UInt8).toArray⟩,.string ⟨([67,79,85,78,84]:List UInt8).toArray⟩,.string ⟨([83,85,77]:List UInt8).toArray⟩,.string ⟨([77,73,78]:List UInt8).toArray⟩,.string ⟨([77,65,88]:List UInt8).toArray⟩],rfl,rfl,⟨[.string ⟨([87,72,69,82,69]:List UInt8).toArray⟩],[.string ⟨([71,82,79,85,80]:List UInt8).toArray⟩,.string ⟨([66,89]:List UInt8).toArray⟩,.string ⟨([72,65,86,73,78,71]:List UInt8).toArray⟩,.string ⟨([85,78,73,79,78]:List UInt8).toArray⟩,.string ⟨([65,76,76]:List UInt8).toArray⟩,.string ⟨([79,82,68,69,82]:List UInt8).toArray⟩,.string ⟨([76,73,77,73,84]:List UInt8).toArray⟩,.string ⟨([65,83,67]:List UInt8).toArray⟩,.string ⟨([68,69,83,67]:List UInt8).toArray⟩,.string ⟨([65,83]:List UInt8).toArray⟩,.string ⟨([65,78,68]:List UInt8).toArray⟩,.string ⟨([79,82]:List UInt8).toArray⟩,.string ⟨([78,79,84]:List UInt8).toArray⟩,.string ⟨([73,83]:List UInt8).toArray⟩,.string ⟨([78,85,76,76]:List UInt8).toArray⟩,.string ⟨([84,82,85,69]:List UInt8).toArray⟩,.string ⟨([70,65,76,83,69]:List UInt8).toArray⟩,.string ⟨([67,79,85,78,84]:List UInt8).toArray⟩,.string ⟨([83,85,77]:List UInt8).toArray⟩,.string ⟨([77,73,78]:List UInt8).toArray⟩,.string ⟨([77,65,88]:List UInt8).toArray⟩],rfl,rfl,⟨[.string ⟨([71,82,79,85,80]:List UInt8).toArray⟩],[.string ⟨([66,89]:List UInt8).toArray⟩,.string ⟨([72,65,86,73,78,71]:List UInt8).toArray⟩,.string ⟨([85,78,73,79,78]:List UInt8).toArray⟩,.string ⟨([65,76,76]:List UInt8).toArray⟩,.string ⟨([79,82,68,69,82]:List UInt8).toArray⟩,.string ⟨([76,73,77,73,84]:List UInt8).toArray⟩,.string ⟨([65,83,67]:List UInt8).toArray⟩,.string ⟨([68,69,83,67]:List UInt8).toArray⟩,.string ⟨([65,83]:List UInt8).toArray⟩,.string ⟨([65,78,68]:List UInt8).toArray⟩,.string ⟨([79,82]:List UInt8).toArray⟩,.string ⟨([78,79,84]:List UInt8).toArray⟩,.string ⟨([73,83]:List UInt8).toArray⟩,.string ⟨([78,85,76,76]:List UInt8).toArray⟩,.string ⟨([84,82,85,69]:List UInt8).toArray⟩,.string ⟨([70,65,76,83,69]:List UInt8).toArray⟩,.string ⟨([67,79,85,78,84]:List UInt8).toArray⟩,.string ⟨([83,85,77]:List UInt8).toArray⟩,.string ⟨([77,73,78]:List UInt8).toArray⟩,.string ⟨([77,65,88]:List UInt8).toArray⟩],rfl,rfl,⟨[.string ⟨([66,89]:List UInt8).toArray⟩],[.string ⟨([72,65,86,73,78,71]:List UInt8).toArray⟩,.string ⟨([85,78,73,79,78]:List UInt8).toArray⟩,.string ⟨([65,76,76]:List UInt8).toArray⟩,.string ⟨([79,82,68,69,82]:List UInt8).toArray⟩,.string ⟨([76,73,77,73,84]:List UInt8).toArray⟩,.string ⟨([65,83,67]:List UInt8).toArray⟩,.string ⟨([68,69,83,67]:List UInt8).toArray⟩,.string ⟨([65,83]:List UInt8).toArray⟩,.string ⟨([65,78,68]:List UInt8).toArray⟩,.string ⟨([79,82]:List UInt8).toArray⟩,.string ⟨([78,79,84]:List UInt8).toArray⟩,.string ⟨([73,83]:List UInt8).toArray⟩,.string ⟨([78,85,76,76]:List UInt8).toArray⟩,.string ⟨([84,82,85,69]:List UInt8).toArray⟩,.string ⟨([70,65,76,83,69]:List UInt8).toArray⟩,.string ⟨([67,79,85,78,84]:List UInt8).toArray⟩,.string ⟨([83,85,77]:List UInt8).toArray⟩,.string ⟨([77,73,78]:List UInt8).toArray⟩,.string ⟨([77,65,88]:List UInt8).toArray⟩],rfl,rfl,⟨[.string ⟨([72,65,86,73,78,71]:List UInt8).toArray⟩],[.string ⟨([85,78,73,79,78]:List UInt8).toArray⟩,.string ⟨([65,76,76]:List UInt8).toArray⟩,.string ⟨([79,82,68,69,82]:List UInt8).toArray⟩,.string ⟨([76,73,77,73,84]:List UInt8).toArray⟩,.string ⟨([65,83,67]:List UInt8).toArray⟩,.string ⟨([68,69,83,67]:List UInt8).toArray⟩,.string ⟨([65,83]:List UInt8).toArray⟩,.string ⟨([65,78,68]:List UInt8).toArray⟩,.string ⟨([79,82]:List UInt8).toArray⟩,.string ⟨([78,79,84]:List UInt8).toArray⟩,.string ⟨([73,83]:List UInt8).toArray⟩,.string ⟨([78,85,76,76]:List UInt8).toArray⟩,.string ⟨([84,82,85,69]:List UInt8).toArray⟩,.string ⟨([70,65,76,83,69]:List UInt8).toArray⟩,.string ⟨([67,79,85,78,84]:List UInt8).toArray⟩,.string ⟨([83,85,77]:List UInt8).toArray⟩,.string ⟨([77,73,78]:List UInt8).toArray⟩,.string ⟨([77,65,88]:List UInt8).toArray⟩],rfl,rfl,⟨[.string ⟨([85,78,73,79,78]:List UInt8).toArray⟩],[.string ⟨([65,76,76]:List UInt8).toArray⟩,.string ⟨([79,82,68,69,82]:List UInt8).toArray⟩,.string ⟨([76,73,77,73,84]:List UInt8).toArray⟩,.string ⟨([65,83,67]:List UInt8).toArray⟩,.string ⟨([68,69,83,67]:List UInt8).toArray⟩,.string ⟨([65,83]:List UInt8).toArray⟩,.string ⟨([65,78,68]:List UInt8).toArray⟩,.string ⟨([79,82]:List UInt8).toArray⟩,.string ⟨([78,79,84]:List UInt8).toArray⟩,.string ⟨([73,83]:List UInt8).toArray⟩,.string ⟨([78,85,76,76]:List UInt8).toArray⟩,.string ⟨([84,82,85,69]:List UInt8).toArray⟩,.string ⟨([70,65,76,83,69]:List UInt8).toArray⟩,.string ⟨([67,79,85,78,84]:List UInt8).toArray⟩,.string ⟨([83,85,77]:List UInt8).toArray⟩,.string ⟨([77,73,78]:List UInt8).toArray⟩,.string ⟨([77,65,88]:List UInt8).toArray⟩],rfl,rfl,⟨[.string ⟨([65,76,76]:List UInt8).toArray⟩],[.string ⟨([79,82,68,69,82]:List UInt8).toArray⟩,.string ⟨([76,73,77,73,84]:List UInt8).toArray⟩,.string ⟨([65,83,67]:List UInt8).toArray⟩,.string ⟨([68,69,83,67]:List UInt8).toArray⟩,.string ⟨([65,83]:List UInt8).toArray⟩,.string ⟨([65,78,68]:List UInt8).toArray⟩,.string ⟨([79,82]:List UInt8).toArray⟩,.string ⟨([78,79,84]:List UInt8).toArray⟩,.string ⟨([73,83]:List UInt8).toArray⟩,.string ⟨([78,85,76,76]:List UInt8).toArray⟩,.string ⟨([84,82,85,69]:List UInt8).toArray⟩,.string ⟨([70,65,76,83,69]:List UInt8).toArray⟩,.string ⟨([67,79,85,78,84]:List UInt8).toArray⟩,.string ⟨([83,85,77]:List UInt8).toArray⟩,.string ⟨([77,73,78]:List UInt8).toArray⟩,.string ⟨([77,65,88]:List UInt8).toArray⟩],rfl,rfl,⟨[.string ⟨([79,82,68,69,82]:List UInt8).toArray⟩],[.string ⟨([76,73,77,73,84]:List UInt8).toArray⟩,.string ⟨([65,83,67]:List UInt8).toArray⟩,.string ⟨([68,69,83,67]:List UInt8).toArray⟩,.string ⟨([65,83]:List UInt8).toArray⟩,.string ⟨([65,78,68]:List UInt8).toArray⟩,.string ⟨([79,82]:List UInt8).toArray⟩,.string ⟨([78,79,84]:List UInt8).toArray⟩,.string ⟨([73,83]:List UInt8).toArray⟩,.string ⟨([78,85,76,76]:List UInt8).toArray⟩,.string ⟨([84,82,85,69]:List UInt8).toArray⟩,.string ⟨([70,65,76,83,69]:List UInt8).toArray⟩,.string ⟨([67,79,85,78,84]:List UInt8).toArray⟩,.string ⟨([83,85,77]:List UInt8).toArray⟩,.string ⟨([77,73,78]:List UInt8).toArray⟩,.string ⟨([77,65,88]:List UInt8).toArray⟩],rfl,rfl,⟨[.string ⟨([76,73,77,73,84]:List UInt8).toArray⟩],[.string ⟨([65,83,67]:List UInt8).toArray⟩,.string ⟨([68,69,83,67]:List UInt8).toArray⟩,.string ⟨([65,83]:List UInt8).toArray⟩,.string ⟨([65,78,68]:List UInt8).toArray⟩,.string ⟨([79,82]:List UInt8).toArray⟩,.string ⟨([78,79,84]:List UInt8).toArray⟩,.string ⟨([73,83]:List UInt8).toArray⟩,.string ⟨([78,85,76,76]:List UInt8).toArray⟩,.string ⟨([84,82,85,69]:List UInt8).toArray⟩,.string ⟨([70,65,76,83,69]:List UInt8).toArray⟩,.string ⟨([67,79,85,78,84]:List UInt8).toArray⟩,.string ⟨([83,85,77]:List UInt8).toArray⟩,.string ⟨([77,73,78]:List UInt8).toArray⟩,.string ⟨([77,65,88]:List UInt8).toArray⟩],rfl,rfl,⟨[.string ⟨([65,83,67]:List UInt8).toArray⟩],[.string ⟨([68,69,83,67]:List UInt8).toArray⟩,.string ⟨([65,83]:List UInt8).toArray⟩,.string ⟨([65,78,68]:List UInt8).toArray⟩,.string ⟨([79,82]:List UInt8).toArray⟩,.string ⟨([78,79,84]:List UInt8).toArray⟩,.string ⟨([73,83]:List UInt8).toArray⟩,.string ⟨([78,85,76,76]:List UInt8).toArray⟩,.string ⟨([84,82,85,69]:List UInt8).toArray⟩,.string ⟨([70,65,76,83,69]:List UInt8).toArray⟩,.string ⟨([67,79,85,78,84]:List UInt8).toArray⟩,.string ⟨([83,85,77]:List UInt8).toArray⟩,.string ⟨([77,73,78]:List UInt8).toArray⟩,.string ⟨([77,65,88]:List UInt8).toArray⟩],rfl,rfl,⟨[.string ⟨([68,69,83,67]:List UInt8).toArray⟩],[.string ⟨([65,83]:List UInt8).toArray⟩,.string ⟨([65,78,68]:List UInt8).toArray⟩,.string ⟨([79,82]:List UInt8).toArray⟩,.string ⟨([78,79,84]:List UInt8).toArray⟩,.string ⟨([73,83]:List UInt8).toArray⟩,.string ⟨([78,85,76,76]:List UInt8).toArray⟩,.string ⟨([84,82,85,69]:List UInt8).toArray⟩,.string ⟨([70,65,76,83,69]:List UInt8).toArray⟩,.string ⟨([67,79,85,78,84]:List UInt8).toArray⟩,.string ⟨([83,85,77]:List UInt8).toArray⟩,.string ⟨([77,73,78]:List UInt8).toArray⟩,.string ⟨([77,65,88]:List UInt8).toArray⟩],rfl,rfl,⟨[.string ⟨([65,83]:List UInt8).toArray⟩],[.string ⟨([65,78,68]:List UInt8).toArray⟩,.string ⟨([79,82]:List UInt8).toArray⟩,.string ⟨([78,79,84]:List UInt8).toArray⟩,.string ⟨([73,83]:List UInt8).toArray⟩,.string ⟨([78,85,76,76]:List UInt8).toArray⟩,.string ⟨([84,82,85,69]:List UInt8).toArray⟩,.string ⟨([70,65,76,83,69]:List UInt8).toArray⟩,.string ⟨([67,79,85,78,84]:List UInt8).toArray⟩,.string ⟨([83,85,77]:List UInt8).toArray⟩,.string ⟨([77,73,78]:List UInt8).toArray⟩,.string ⟨([77,65,88]:List UInt8).toArray⟩],rfl,rfl,⟨[.string ⟨([65,78,68]:List UInt8).toArray⟩],[.string ⟨([79,82]:List UInt8).toArray⟩,.string ⟨([78,79,84]:List UInt8).toArray⟩,.string ⟨([73,83]:List UInt8).toArray⟩,.string ⟨([78,85,76,76]:List UInt8).toArray⟩,.string ⟨([84,82,85,69]:List UInt8).toArray⟩,.string ⟨([70,65,76,83,69]:List UInt8).toArray⟩,.string ⟨([67,79,85,78,84]:List UInt8).toArray⟩,.string ⟨([83,85,77]:List UInt8).toArray⟩,.string ⟨([77,73,78]:List UInt8).toArray⟩,.string ⟨([77,65,88]:List UInt8).toArray⟩],rfl,rfl,⟨[.string ⟨([79,82]:List UInt8).toArray⟩],[.string ⟨([78,79,84]:List UInt8).toArray⟩,.string ⟨([73,83]:List UInt8).toArray⟩,.string ⟨([78,85,76,76]:List UInt8).toArray⟩,.string ⟨([84,82,85,69]:List UInt8).toArray⟩,.string ⟨([70,65,76,83,69]:List UInt8).toArray⟩,.string ⟨([67,79,85,78,84]:List UInt8).toArray⟩,.string ⟨([83,85,77]:List UInt8).toArray⟩,.string ⟨([77,73,78]:List UInt8).toArray⟩,.string ⟨([77,65,88]:List UInt8).toArray⟩],rfl,rfl,⟨[.string ⟨([78,79,84]:List UInt8).toArray⟩],[.string ⟨([73,83]:List UInt8).toArray⟩,.string ⟨([78,85,76,76]:List UInt8).toArray⟩,.string ⟨([84,82,85,69]:List UInt8).toArray⟩,.string ⟨([70,65,76,83,69]:List UInt8).toArray⟩,.string ⟨([67,79,85,78,84]:List UInt8).toArray⟩,.string ⟨([83,85,77]:List UInt8).toArray⟩,.string ⟨([77,73,78]:List UInt8).toArray⟩,.string ⟨([77,65,88]:List UInt8).toArray⟩],rfl,rfl,⟨[.string ⟨([73,83]:List UInt8).toArray⟩],[.string ⟨([78,85,76,76]:List UInt8).toArray⟩,.string ⟨([84,82,85,69]:List UInt8).toArray⟩,.string ⟨([70,65,76,83,69]:List UInt8).toArray⟩,.string ⟨([67,79,85,78,84]:List UInt8).toArray⟩,.string ⟨([83,85,77]:List UInt8).toArray⟩,.string ⟨([77,73,78]:List UInt8).toArray⟩,.string ⟨([77,65,88]:List UInt8).toArray⟩],rfl,rfl,⟨[.string ⟨([78,85,76,76]:List UInt8).toArray⟩],[.string ⟨([84,82,85,69]:List UInt8).toArray⟩,.string ⟨([70,65,76,83,69]:List UInt8).toArray⟩,.string ⟨([67,79,85,78,84]:List UInt8).toArray⟩,.string ⟨([83,85,77]:List UInt8).toArray⟩,.string ⟨([77,73,78]:List UInt8).toArray⟩,.string ⟨([77,65,88]:List UInt8).toArray⟩],rfl,rfl,⟨[.string ⟨([84,82,85,69]:List UInt8).toArray⟩],[.string ⟨([70,65,76,83,69]:List UInt8).toArray⟩,.string ⟨([67,79,85,78,84]:List UInt8).toArray⟩,.string ⟨([83,85,77]:List UInt8).toArray⟩,.string ⟨([77,73,78]:List UInt8).toArray⟩,.string ⟨([77,65,88]:List UInt8).toArray⟩],rfl,rfl,⟨[.string ⟨([70,65,76,83,69]:List UInt8).toArray⟩],[.string ⟨([67,79,85,78,84]:List UInt8).toArray⟩,.string ⟨([83,85,77]:List UInt8).toArray⟩,.string ⟨([77,73,78]:List UInt8).toArray⟩,.string ⟨([77,65,88]:List UInt8).toArray⟩],rfl,rfl,⟨[.string ⟨([67,79,85,78,84]:List UInt8).toArray⟩],[.string ⟨([83,85,77]:List UInt8).toArray⟩,.string ⟨([77,73,78]:List UInt8).toArray⟩,.string ⟨([77,65,88]:List UInt8).toArray⟩],rfl,rfl,⟨[.string ⟨([83,85,77]:List UInt8).toArray⟩],[.string ⟨([77,73,78]:List UInt8).toArray⟩,.string ⟨([77,65,88]:List UInt8).toArray⟩],rfl,rfl,⟨[.string ⟨([77,73,78]:List UInt8).toArray⟩],[.string ⟨([77,65,88]:List UInt8).toArray⟩],rfl,rfl,⟨[.string ⟨([77,65,88]:List UInt8).toArray⟩],[],rfl,rfl,(rfl:_=[])⟩⟩⟩⟩⟩⟩⟩⟩⟩⟩⟩⟩⟩⟩⟩⟩⟩⟩⟩⟩⟩⟩⟩⟩⟩⟩⟩⟩⟩

end Go.Proofs.YtigldkegamffhaaGreatDoor

