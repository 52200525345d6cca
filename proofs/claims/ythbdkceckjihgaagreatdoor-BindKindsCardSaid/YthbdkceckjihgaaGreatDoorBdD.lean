/- cm of this claim: D. -/
import Derived.Test.YthbdkceckjihgaaGreatDoorBdV3
import Derived.Test.YthbdkceckjihgaaGreatDoorBdV4
set_option linter.all false
namespace Go.Proofs.YthbdkceckjihgaaGreatDoor
open Go

structure bp where
 Name:cB
 Kind:Int
 deriving DecidableEq,Inhabited
def cj:Rp bp:=iT (bC rS (rI .i64)) (fun x=>(x.Name,x.Kind))
def px:g9 cj 0 rS (fun x=>x.Name):=(bS ba)
def uK:dW cj 0 rS (fun x y=>{x with Name:=y}):=bg cc (fun _ _=>rfl)
def u0:g9 cj 1 (rI .i64) (fun x=>x.Kind):=(av ba rfl)
def uJ:dW cj 1 (rI .i64) (fun x y=>{x with Kind:=y}):=bg (an al rfl) (fun _ _=>rfl)
def nC: ∀S,cj.rc S [.string ⟨#[]⟩,.int .i64 0] ((⟨[],(0:Int)⟩:bp)):=fun _=>⟨[.string ⟨#[]⟩],[.int .i64 0],rfl,rfl,rfl⟩
structure Fn where
 word:cB
 kind:Int
 deriving DecidableEq,Inhabited
def vz:Rp Fn:=iT (bC rS (rI .i64)) (fun x=>(x.word,x.kind))
def Nc:g9 vz 0 rS (fun x=>x.word):=(bS ba)
def Nb:g9 vz 1 (rI .i64) (fun x=>x.kind):=(av ba rfl)
def Qf: ∀S,vz.rc S [.string ⟨#[]⟩,.int .i64 0] ((⟨[],(0:Int)⟩:Fn)):=fun _=>⟨[.string ⟨#[]⟩],[.int .i64 0],rfl,rfl,rfl⟩
structure bH where
 Name:cB
 Columns:(List bp)
 Keys:(List Int)
 deriving DecidableEq,Inhabited
def cA:Rp bH:=iT (bC rS (bC (eF cj) (eF (rI .i64)))) (fun x=>(x.Name,x.Columns,x.Keys))
def C1:g9 cA 0 rS (fun x=>x.Name):=(bS ba)
def Co:dW cA 0 rS (fun x y=>{x with Name:=y}):=bg cc (fun _ _=>rfl)
def kX:g9 cA 1 (eF cj) (fun x=>x.Columns):=(bS (av ba rfl))
def wY:dW cA 1 (eF cj) (fun x y=>{x with Columns:=y}):=bg (an cc rfl) (fun _ _=>rfl)
def xk:g9 cA 2 (eF (rI .i64)) (fun x=>x.Keys):=(av (av ba rfl) rfl)
def Ja:dW cA 2 (eF (rI .i64)) (fun x y=>{x with Keys:=y}):=bg (an (an al rfl) rfl) (fun _ _=>rfl)
def xX: ∀S,cA.rc S [.string ⟨#[]⟩,.slice none 0 0,.slice none 0 0] ((⟨[],[],[]⟩:bH)):=fun _=>⟨[.string ⟨#[]⟩],[.slice none 0 0,.slice none 0 0],rfl,rfl,⟨[.slice none 0 0],[.slice none 0 0],rfl,⟨none,0,rfl,eX _,jM _,.inl rfl⟩,⟨none,0,rfl,eX _,jM _,.inl rfl⟩⟩⟩
structure au where
 Tables:(List bH)
 deriving DecidableEq,Inhabited
def bq:Rp au:=iT (eF cA) (fun x=>(x.Tables))
def jl:g9 bq 0 (eF cA) (fun x=>x.Tables):=ba
def FL:dW bq 0 (eF cA) (fun x y=>{x with Tables:=y}):=bg al (fun _ _=>rfl)
def oF: ∀S,bq.rc S [.slice none 0 0] ((⟨[]⟩:au)):=fun _=>⟨none,0,rfl,eX _,jM _,.inl rfl⟩
structure bZ where
 Kind:Int
 N:Int
 U:Int
 S:cB
 deriving DecidableEq,Inhabited
def dH:Rp bZ:=iT (bC (rI .i64) (bC (rI .i64) (bC (rI .u64) rS))) (fun x=>(x.Kind,x.N,x.U,x.S))
def tp:g9 dH 0 (rI .i64) (fun x=>x.Kind):=(bS ba)
def wX:dW dH 0 (rI .i64) (fun x y=>{x with Kind:=y}):=bg cc (fun _ _=>rfl)
def tn:g9 dH 1 (rI .i64) (fun x=>x.N):=(bS (av ba rfl))
def Cn:dW dH 1 (rI .i64) (fun x y=>{x with N:=y}):=bg (an cc rfl) (fun _ _=>rfl)
def JL:g9 dH 2 (rI .u64) (fun x=>x.U):=(bS (av (av ba rfl) rfl))
def I9:dW dH 2 (rI .u64) (fun x y=>{x with U:=y}):=bg (an (an cc rfl) rfl) (fun _ _=>rfl)
def qN:g9 dH 3 rS (fun x=>x.S):=(av (av (av ba rfl) rfl) rfl)
def Cm:dW dH 3 rS (fun x y=>{x with S:=y}):=bg (an (an (an al rfl) rfl) rfl) (fun _ _=>rfl)
def qw: ∀S,dH.rc S [.int .i64 0,.int .i64 0,.int .u64 0,.string ⟨#[]⟩] ((⟨(0:Int),(0:Int),(0:Int),[]⟩:bZ)):=fun _=>⟨[.int .i64 0],[.int .i64 0,.int .u64 0,.string ⟨#[]⟩],rfl,rfl,⟨[.int .i64 0],[.int .u64 0,.string ⟨#[]⟩],rfl,rfl,⟨[.int .u64 0],[.string ⟨#[]⟩],rfl,rfl,rfl⟩⟩⟩
structure cw where
 Tag:Int
 L:Int
 R:Int
 Value:bZ
 Table:cB
 Name:cB
 deriving DecidableEq,Inhabited
def cz:Rp cw:=iT (bC (rI .i64) (bC (rI .i64) (bC (rI .i64) (bC dH (bC rS rS))))) (fun x=>(x.Tag,x.L,x.R,x.Value,x.Table,x.Name))
def nL:g9 cz 0 (rI .i64) (fun x=>x.Tag):=(bS ba)
def Mr:dW cz 0 (rI .i64) (fun x y=>{x with Tag:=y}):=bg cc (fun _ _=>rfl)
def E3:g9 cz 1 (rI .i64) (fun x=>x.L):=(bS (av ba rfl))
def Mq:dW cz 1 (rI .i64) (fun x y=>{x with L:=y}):=bg (an cc rfl) (fun _ _=>rfl)
def E2:g9 cz 2 (rI .i64) (fun x=>x.R):=(bS (av (av ba rfl) rfl))
def Mp:dW cz 2 (rI .i64) (fun x y=>{x with R:=y}):=bg (an (an cc rfl) rfl) (fun _ _=>rfl)
def nK:g9 cz 3 dH (fun x=>x.Value):=(bS (av (av (av ba rfl) rfl) rfl))
def Mo:dW cz 3 dH (fun x y=>{x with Value:=y}):=bg (an (an (an cc rfl) rfl) rfl) (fun _ _=>rfl)
def sL:g9 cz 7 rS (fun x=>x.Table):=(bS (av (av (av (av ba rfl) rfl) rfl) rfl))
def Mn:dW cz 7 rS (fun x y=>{x with Table:=y}):=bg (an (an (an (an cc rfl) rfl) rfl) rfl) (fun _ _=>rfl)
def qk:g9 cz 8 rS (fun x=>x.Name):=(av (av (av (av (av ba rfl) rfl) rfl) rfl) rfl)
def Ey:dW cz 8 rS (fun x y=>{x with Name:=y}):=bg (an (an (an (an (an al rfl) rfl) rfl) rfl) rfl) (fun _ _=>rfl)
def Bs: ∀S,cz.rc S [.int .i64 0,.int .i64 0,.int .i64 0,.int .i64 0,.int .i64 0,.int .u64 0,.string ⟨#[]⟩,.string ⟨#[]⟩,.string ⟨#[]⟩] ((⟨(0:Int),(0:Int),(0:Int),(⟨(0:Int),(0:Int),(0:Int),[]⟩:bZ),[],[]⟩:cw)):=fun _=>⟨[.int .i64 0],[.int .i64 0,.int .i64 0,.int .i64 0,.int .i64 0,.int .u64 0,.string ⟨#[]⟩,.string ⟨#[]⟩,.string ⟨#[]⟩],rfl,rfl,⟨[.int .i64 0],[.int .i64 0,.int .i64 0,.int .i64 0,.int .u64 0,.string ⟨#[]⟩,.string ⟨#[]⟩,.string ⟨#[]⟩],rfl,rfl,⟨[.int .i64 0],[.int .i64 0,.int .i64 0,.int .u64 0,.string ⟨#[]⟩,.string ⟨#[]⟩,.string ⟨#[]⟩],rfl,rfl,⟨[.int .i64 0,.int .i64 0,.int .u64 0,.string ⟨#[]⟩],[.string ⟨#[]⟩,.string ⟨#[]⟩],rfl,qw _,⟨[.string ⟨#[]⟩],[.string ⟨#[]⟩],rfl,rfl,rfl⟩⟩⟩⟩⟩
structure cy where
 Nodes:(List cw)
 deriving DecidableEq,Inhabited
def bt:Rp cy:=iT (eF cz) (fun x=>(x.Nodes))
def kB:g9 bt 0 (eF cz) (fun x=>x.Nodes):=ba
def Mm:dW bt 0 (eF cz) (fun x y=>{x with Nodes:=y}):=bg al (fun _ _=>rfl)
def pU: ∀S,bt.rc S [.slice none 0 0] ((⟨[]⟩:cy)):=fun _=>⟨none,0,rfl,eX _,jM _,.inl rfl⟩
structure eG where
 Tree:cy
 As:cB
 deriving DecidableEq,Inhabited
def dC:Rp eG:=iT (bC bt rS) (fun x=>(x.Tree,x.As))
def oQ:g9 dC 0 bt (fun x=>x.Tree):=(bS ba)
def EB:dW dC 0 bt (fun x y=>{x with Tree:=y}):=bg cc (fun _ _=>rfl)
def E5:g9 dC 1 rS (fun x=>x.As):=(av ba rfl)
def vu: ∀S,dC.rc S [.slice none 0 0,.string ⟨#[]⟩] ((⟨(⟨[]⟩:cy),[]⟩:eG)):=fun _=>⟨[.slice none 0 0],[.string ⟨#[]⟩],rfl,pU _,rfl⟩
structure dj where
 Table:cB
 As:cB
 deriving DecidableEq,Inhabited
def gc:Rp dj:=iT (bC rS rS) (fun x=>(x.Table,x.As))
def uW:g9 gc 0 rS (fun x=>x.Table):=(bS ba)
def Hn:dW gc 0 rS (fun x y=>{x with Table:=y}):=bg cc (fun _ _=>rfl)
def uV:g9 gc 1 rS (fun x=>x.As):=(av ba rfl)
def vt: ∀S,gc.rc S [.string ⟨#[]⟩,.string ⟨#[]⟩] ((⟨[],[]⟩:dj)):=fun _=>⟨[.string ⟨#[]⟩],[.string ⟨#[]⟩],rfl,rfl,rfl⟩
structure lT where
 Left:Bool
 Source:dj
 On:cy
 deriving DecidableEq,Inhabited
def eZ:Rp lT:=iT (bC rB (bC gc bt)) (fun x=>(x.Left,x.Source,x.On))
def Nf:g9 eZ 0 rB (fun x=>x.Left):=(bS ba)
def E4:g9 eZ 1 gc (fun x=>x.Source):=(bS (av ba rfl))
def z6:g9 eZ 3 bt (fun x=>x.On):=(av (av ba rfl) rfl)
def Ms:dW eZ 3 bt (fun x y=>{x with On:=y}):=bg (an (an al rfl) rfl) (fun _ _=>rfl)
def Fw: ∀S,eZ.rc S [.bool false,.string ⟨#[]⟩,.string ⟨#[]⟩,.slice none 0 0] ((⟨false,(⟨[],[]⟩:dj),(⟨[]⟩:cy)⟩:lT)):=fun _=>⟨[.bool false],[.string ⟨#[]⟩,.string ⟨#[]⟩,.slice none 0 0],rfl,rfl,⟨[.string ⟨#[]⟩,.string ⟨#[]⟩],[.slice none 0 0],rfl,vt _,pU _⟩⟩
structure iN where
 Table:cB
 Name:cB
 deriving DecidableEq,Inhabited
def eH:Rp iN:=iT (bC rS rS) (fun x=>(x.Table,x.Name))
def z2:g9 eH 0 rS (fun x=>x.Table):=(bS ba)
def EA:dW eH 0 rS (fun x y=>{x with Table:=y}):=bg cc (fun _ _=>rfl)
def z1:g9 eH 1 rS (fun x=>x.Name):=(av ba rfl)
def Ez:dW eH 1 rS (fun x y=>{x with Name:=y}):=bg (an al rfl) (fun _ _=>rfl)
def Bu: ∀S,eH.rc S [.string ⟨#[]⟩,.string ⟨#[]⟩] ((⟨[],[]⟩:iN)):=fun _=>⟨[.string ⟨#[]⟩],[.string ⟨#[]⟩],rfl,rfl,rfl⟩
structure ay where
 Distinct:Bool
 Star:Bool
 Items:(List eG)
 From:dj
 Joins:(List lT)
 Where:cy
 Having:cy
 Group:(List iN)
 deriving DecidableEq,Inhabited
def bb:Rp ay:=iT (bC rB (bC rB (bC (eF dC) (bC gc (bC (eF eZ) (bC bt (bC bt (eF eH)))))))) (fun x=>(x.Distinct,x.Star,x.Items,x.From,x.Joins,x.Where,x.Having,x.Group))
def Ie:g9 bb 0 rB (fun x=>x.Distinct):=(bS ba)
def rA:g9 bb 1 rB (fun x=>x.Star):=(bS (av ba rfl))
def mp:g9 bb 2 (eF dC) (fun x=>x.Items):=(bS (av (av ba rfl) rfl))
def Hp:dW bb 2 (eF dC) (fun x y=>{x with Items:=y}):=bg (an (an cc rfl) rfl) (fun _ _=>rfl)
def AQ:g9 bb 3 gc (fun x=>x.From):=(bS (av (av (av ba rfl) rfl) rfl))
def Ho:dW bb 3 gc (fun x y=>{x with From:=y}):=bg (an (an (an cc rfl) rfl) rfl) (fun _ _=>rfl)
def pw:g9 bb 5 (eF eZ) (fun x=>x.Joins):=(bS (av (av (av (av ba rfl) rfl) rfl) rfl))
def uX:g9 bb 6 bt (fun x=>x.Where):=(bS (av (av (av (av (av ba rfl) rfl) rfl) rfl) rfl))
def rz:g9 bb 7 bt (fun x=>x.Having):=(bS (av (av (av (av (av (av ba rfl) rfl) rfl) rfl) rfl) rfl))
def mo:g9 bb 8 (eF eH) (fun x=>x.Group):=(av (av (av (av (av (av (av ba rfl) rfl) rfl) rfl) rfl) rfl) rfl)
def zl: ∀S,bb.rc S [.bool false,.bool false,.slice none 0 0,.string ⟨#[]⟩,.string ⟨#[]⟩,.slice none 0 0,.slice none 0 0,.slice none 0 0,.slice none 0 0] ((⟨false,false,[],(⟨[],[]⟩:dj),[],(⟨[]⟩:cy),(⟨[]⟩:cy),[]⟩:ay)):=fun _=>⟨[.bool false],[.bool false,.slice none 0 0,.string ⟨#[]⟩,.string ⟨#[]⟩,.slice none 0 0,.slice none 0 0,.slice none 0 0,.slice none 0 0],rfl,rfl,⟨[.bool false],[.slice none 0 0,.string ⟨#[]⟩,.string ⟨#[]⟩,.slice none 0 0,.slice none 0 0,.slice none 0 0,.slice none 0 0],rfl,rfl,⟨[.slice none 0 0],[.string ⟨#[]⟩,.string ⟨#[]⟩,.slice none 0 0,.slice none 0 0,.slice none 0 0,.slice none 0 0],rfl,⟨none,0,rfl,eX _,jM _,.inl rfl⟩,⟨[.string ⟨#[]⟩,.string ⟨#[]⟩],[.slice none 0 0,.slice none 0 0,.slice none 0 0,.slice none 0 0],rfl,vt _,⟨[.slice none 0 0],[.slice none 0 0,.slice none 0 0,.slice none 0 0],rfl,⟨none,0,rfl,eX _,jM _,.inl rfl⟩,⟨[.slice none 0 0],[.slice none 0 0,.slice none 0 0],rfl,pU _,⟨[.slice none 0 0],[.slice none 0 0],rfl,pU _,⟨none,0,rfl,eX _,jM _,.inl rfl⟩⟩⟩⟩⟩⟩⟩⟩
structure jI where
 first:Int
 depth:Int
 deriving DecidableEq,Inhabited
def fC:Rp jI:=iT (bC (rI .i64) (rI .i64)) (fun x=>(x.first,x.depth))
def C0:g9 fC 0 (rI .i64) (fun x=>x.first):=(bS ba)
def Cl:dW fC 0 (rI .i64) (fun x y=>{x with first:=y}):=bg cc (fun _ _=>rfl)
def tm:g9 fC 1 (rI .i64) (fun x=>x.depth):=(av ba rfl)
def Ck:dW fC 1 (rI .i64) (fun x y=>{x with depth:=y}):=bg (an al rfl) (fun _ _=>rfl)
def GY: ∀S,fC.rc S [.int .i64 0,.int .i64 0] ((⟨(0:Int),(0:Int)⟩:jI)):=fun _=>⟨[.int .i64 0],[.int .i64 0],rfl,rfl,rfl⟩
structure tW where
 Name:cB
 Number:Int
 Desc:Bool
 deriving DecidableEq,Inhabited
def jg:Rp tW:=iT (bC rS (bC (rI .i64) rB)) (fun x=>(x.Name,x.Number,x.Desc))
def uZ:g9 jg 0 rS (fun x=>x.Name):=(bS ba)
def uY:g9 jg 1 (rI .i64) (fun x=>x.Number):=(bS (av ba rfl))
def Og:dW jg 1 (rI .i64) (fun x y=>{x with Number:=y}):=bg (an cc rfl) (fun _ _=>rfl)
def O0:g9 jg 2 rB (fun x=>x.Desc):=(av (av ba rfl) rfl)
def IS: ∀S,jg.rc S [.string ⟨#[]⟩,.int .i64 0,.bool false] ((⟨[],(0:Int),false⟩:tW)):=fun _=>⟨[.string ⟨#[]⟩],[.int .i64 0,.bool false],rfl,rfl,⟨[.int .i64 0],[.bool false],rfl,rfl,rfl⟩⟩
structure bD where
 Selects:(List ay)
 Keys:(List tW)
 Limit:Int
 deriving DecidableEq,Inhabited
def bI:Rp bD:=iT (bC (eF bb) (bC (eF jg) (rI .i64))) (fun x=>(x.Selects,x.Keys,x.Limit))
def qO:g9 bI 0 (eF bb) (fun x=>x.Selects):=(bS ba)
def Jd:dW bI 0 (eF bb) (fun x y=>{x with Selects:=y}):=bg cc (fun _ _=>rfl)
def oP:g9 bI 1 (eF jg) (fun x=>x.Keys):=(bS (av ba rfl))
def Jc:dW bI 1 (eF jg) (fun x y=>{x with Keys:=y}):=bg (an cc rfl) (fun _ _=>rfl)
def tt:g9 bI 2 (rI .i64) (fun x=>x.Limit):=(av (av ba rfl) rfl)
def Jb:dW bI 2 (rI .i64) (fun x y=>{x with Limit:=y}):=bg (an (an al rfl) rfl) (fun _ _=>rfl)
def uz: ∀S,bI.rc S [.slice none 0 0,.slice none 0 0,.int .i64 0] ((⟨[],[],(0:Int)⟩:bD)):=fun _=>⟨[.slice none 0 0],[.slice none 0 0,.int .i64 0],rfl,⟨none,0,rfl,eX _,jM _,.inl rfl⟩,⟨[.slice none 0 0],[.int .i64 0],rfl,⟨none,0,rfl,eX _,jM _,.inl rfl⟩,rfl⟩⟩
structure ap where
 Tag:Int
 L:Int
 R:Int
 Col:Int
 Value:bZ
 deriving DecidableEq,Inhabited
def bh:Rp ap:=iT (bC (rI .i64) (bC (rI .i64) (bC (rI .i64) (bC (rI .i64) dH)))) (fun x=>(x.Tag,x.L,x.R,x.Col,x.Value))
def jE:g9 bh 0 (rI .i64) (fun x=>x.Tag):=(bS ba)
def oJ:dW bh 0 (rI .i64) (fun x y=>{x with Tag:=y}):=bg cc (fun _ _=>rfl)
def tv:g9 bh 1 (rI .i64) (fun x=>x.L):=(bS (av ba rfl))
def Cq:dW bh 1 (rI .i64) (fun x y=>{x with L:=y}):=bg (an cc rfl) (fun _ _=>rfl)
def tu:g9 bh 2 (rI .i64) (fun x=>x.R):=(bS (av (av ba rfl) rfl))
def Cp:dW bh 2 (rI .i64) (fun x y=>{x with R:=y}):=bg (an (an cc rfl) rfl) (fun _ _=>rfl)
def mq:g9 bh 3 (rI .i64) (fun x=>x.Col):=(bS (av (av (av ba rfl) rfl) rfl))
def wZ:dW bh 3 (rI .i64) (fun x y=>{x with Col:=y}):=bg (an (an (an cc rfl) rfl) rfl) (fun _ _=>rfl)
def qP:g9 bh 4 dH (fun x=>x.Value):=(av (av (av (av ba rfl) rfl) rfl) rfl)
def Je:dW bh 4 dH (fun x y=>{x with Value:=y}):=bg (an (an (an (an al rfl) rfl) rfl) rfl) (fun _ _=>rfl)
def mZ: ∀S,bh.rc S [.int .i64 0,.int .i64 0,.int .i64 0,.int .i64 0,.int .i64 0,.int .i64 0,.int .u64 0,.string ⟨#[]⟩] ((⟨(0:Int),(0:Int),(0:Int),(0:Int),(⟨(0:Int),(0:Int),(0:Int),[]⟩:bZ)⟩:ap)):=fun _=>⟨[.int .i64 0],[.int .i64 0,.int .i64 0,.int .i64 0,.int .i64 0,.int .i64 0,.int .u64 0,.string ⟨#[]⟩],rfl,rfl,⟨[.int .i64 0],[.int .i64 0,.int .i64 0,.int .i64 0,.int .i64 0,.int .u64 0,.string ⟨#[]⟩],rfl,rfl,⟨[.int .i64 0],[.int .i64 0,.int .i64 0,.int .i64 0,.int .u64 0,.string ⟨#[]⟩],rfl,rfl,⟨[.int .i64 0],[.int .i64 0,.int .i64 0,.int .u64 0,.string ⟨#[]⟩],rfl,rfl,qw _⟩⟩⟩⟩
structure aB where
 Nodes:(List ap)
 deriving DecidableEq,Inhabited
def ae:Rp aB:=iT (eF bh) (fun x=>(x.Nodes))
def lB:g9 ae 0 (eF bh) (fun x=>x.Nodes):=ba
def Mt:dW ae 0 (eF bh) (fun x y=>{x with Nodes:=y}):=bg al (fun _ _=>rfl)
def eb: ∀S,ae.rc S [.slice none 0 0] ((⟨[]⟩:aB)):=fun _=>⟨none,0,rfl,eX _,jM _,.inl rfl⟩
structure ll where
 Left:Bool
 On:aB
 deriving DecidableEq,Inhabited
def aD:Rp ll:=iT (bC rB ae) (fun x=>(x.Left,x.On))
def Jg:dW aD 0 rB (fun x y=>{x with Left:=y}):=bg cc (fun _ _=>rfl)
def C3:g9 aD 1 ae (fun x=>x.On):=(av ba rfl)
def Jf:dW aD 1 ae (fun x y=>{x with On:=y}):=bg (an al rfl) (fun _ _=>rfl)
def GZ: ∀S,aD.rc S [.bool false,.slice none 0 0] ((⟨false,(⟨[]⟩:aB)⟩:ll)):=fun _=>⟨[.bool false],[.slice none 0 0],rfl,rfl,eb _⟩
structure jJ where
 Tag:Int
 Arg:aB
 deriving DecidableEq,Inhabited
def aR:Rp jJ:=iT (bC (rI .i64) ae) (fun x=>(x.Tag,x.Arg))
def od:g9 aR 0 (rI .i64) (fun x=>x.Tag):=(bS ba)
def Oi:dW aR 0 (rI .i64) (fun x y=>{x with Tag:=y}):=bg cc (fun _ _=>rfl)
def yJ:g9 aR 1 ae (fun x=>x.Arg):=(av ba rfl)
def Oh:dW aR 1 ae (fun x y=>{x with Arg:=y}):=bg (an al rfl) (fun _ _=>rfl)
def IT: ∀S,aR.rc S [.int .i64 0,.slice none 0 0] ((⟨(0:Int),(⟨[]⟩:aB)⟩:jJ)):=fun _=>⟨[.int .i64 0],[.slice none 0 0],rfl,rfl,eb _⟩
structure aK where
 Tables:(List Int)
 Joins:(List ll)
 Where:aB
 Having:aB
 Grouped:Bool
 Distinct:Bool
 Keys:(List Int)
 Aggs:(List jJ)
 Items:(List aB)
 deriving DecidableEq,Inhabited
def bj:Rp aK:=iT (bC (eF (rI .i64)) (bC (eF aD) (bC ae (bC ae (bC rB (bC rB (bC (eF (rI .i64)) (bC (eF aR) (eF ae))))))))) (fun x=>(x.Tables,x.Joins,x.Where,x.Having,x.Grouped,x.Distinct,x.Keys,x.Aggs,x.Items))
def tz:g9 bj 0 (eF (rI .i64)) (fun x=>x.Tables):=(bS ba)
def FT:dW bj 0 (eF (rI .i64)) (fun x y=>{x with Tables:=y}):=bg cc (fun _ _=>rfl)
def yI:g9 bj 1 (eF aD) (fun x=>x.Joins):=(bS (av ba rfl))
def FS:dW bj 1 (eF aD) (fun x y=>{x with Joins:=y}):=bg (an cc rfl) (fun _ _=>rfl)
def Gd:g9 bj 2 ae (fun x=>x.Where):=(bS (av (av ba rfl) rfl))
def FR:dW bj 2 ae (fun x y=>{x with Where:=y}):=bg (an (an cc rfl) rfl) (fun _ _=>rfl)
def yH:g9 bj 3 ae (fun x=>x.Having):=(bS (av (av (av ba rfl) rfl) rfl))
def FQ:dW bj 3 ae (fun x y=>{x with Having:=y}):=bg (an (an (an cc rfl) rfl) rfl) (fun _ _=>rfl)
def oc:g9 bj 4 rB (fun x=>x.Grouped):=(bS (av (av (av (av ba rfl) rfl) rfl) rfl))
def FP:dW bj 4 rB (fun x y=>{x with Grouped:=y}):=bg (an (an (an (an cc rfl) rfl) rfl) rfl) (fun _ _=>rfl)
def FO:dW bj 5 rB (fun x y=>{x with Distinct:=y}):=bg (an (an (an (an (an cc rfl) rfl) rfl) rfl) rfl) (fun _ _=>rfl)
def yG:g9 bj 6 (eF (rI .i64)) (fun x=>x.Keys):=(bS (av (av (av (av (av (av ba rfl) rfl) rfl) rfl) rfl) rfl))
def FN:dW bj 6 (eF (rI .i64)) (fun x y=>{x with Keys:=y}):=bg (an (an (an (an (an (an cc rfl) rfl) rfl) rfl) rfl) rfl) (fun _ _=>rfl)
def yF:g9 bj 7 (eF aR) (fun x=>x.Aggs):=(bS (av (av (av (av (av (av (av ba rfl) rfl) rfl) rfl) rfl) rfl) rfl))
def FM:dW bj 7 (eF aR) (fun x y=>{x with Aggs:=y}):=bg (an (an (an (an (an (an (an cc rfl) rfl) rfl) rfl) rfl) rfl) rfl) (fun _ _=>rfl)
def tw:g9 bj 8 (eF ae) (fun x=>x.Items):=(av (av (av (av (av (av (av (av ba rfl) rfl) rfl) rfl) rfl) rfl) rfl) rfl)
def yi:dW bj 8 (eF ae) (fun x y=>{x with Items:=y}):=bg (an (an (an (an (an (an (an (an al rfl) rfl) rfl) rfl) rfl) rfl) rfl) rfl) (fun _ _=>rfl)
def BY: ∀S,bj.rc S [.slice none 0 0,.slice none 0 0,.slice none 0 0,.slice none 0 0,.bool false,.bool false,.slice none 0 0,.slice none 0 0,.slice none 0 0] ((⟨[],[],(⟨[]⟩:aB),(⟨[]⟩:aB),false,false,[],[],[]⟩:aK)):=fun _=>⟨[.slice none 0 0],[.slice none 0 0,.slice none 0 0,.slice none 0 0,.bool false,.bool false,.slice none 0 0,.slice none 0 0,.slice none 0 0],rfl,⟨none,0,rfl,eX _,jM _,.inl rfl⟩,⟨[.slice none 0 0],[.slice none 0 0,.slice none 0 0,.bool false,.bool false,.slice none 0 0,.slice none 0 0,.slice none 0 0],rfl,⟨none,0,rfl,eX _,jM _,.inl rfl⟩,⟨[.slice none 0 0],[.slice none 0 0,.bool false,.bool false,.slice none 0 0,.slice none 0 0,.slice none 0 0],rfl,eb _,⟨[.slice none 0 0],[.bool false,.bool false,.slice none 0 0,.slice none 0 0,.slice none 0 0],rfl,eb _,⟨[.bool false],[.bool false,.slice none 0 0,.slice none 0 0,.slice none 0 0],rfl,rfl,⟨[.bool false],[.slice none 0 0,.slice none 0 0,.slice none 0 0],rfl,rfl,⟨[.slice none 0 0],[.slice none 0 0,.slice none 0 0],rfl,⟨none,0,rfl,eX _,jM _,.inl rfl⟩,⟨[.slice none 0 0],[.slice none 0 0],rfl,⟨none,0,rfl,eX _,jM _,.inl rfl⟩,⟨none,0,rfl,eX _,jM _,.inl rfl⟩⟩⟩⟩⟩⟩⟩⟩⟩
structure ac where
 Catalog:au
 from_:ay
 out:aK
 called:(List (cB×Bool))
 alone:(List (cB×(List Int)))
 behind:(List ((cB×cB)×Int))
 kinds:(List Int)
 groups:(List Int)
 at_:Int
 deriving DecidableEq,Inhabited
def ax:Rp ac:=iT (bC bq (bC bb (bC bj (bC (MA:Rp (List (cB×Bool))) (bC (MA:Rp (List (cB×(List Int)))) (bC (MA:Rp (List ((cB×cB)×Int))) (bC (eF (rI .i64)) (bC (eF (rI .i64)) (rI .i64))))))))) (fun x=>(x.Catalog,x.from_,x.out,x.called,x.alone,x.behind,x.kinds,x.groups,x.at_))
def xj:g9 ax 0 bq (fun x=>x.Catalog):=(bS ba)
def gB:g9 ax 1 bb (fun x=>x.from_):=(bS (av ba rfl))
def f7:g9 ax 10 bj (fun x=>x.out):=(bS (av (av ba rfl) rfl))
def j7:dW ax 10 bj (fun x y=>{x with out:=y}):=bg (an (an cc rfl) rfl) (fun _ _=>rfl)
def I8:dW ax 22 (eF (rI .i64)) (fun x y=>{x with kinds:=y}):=bg (an (an (an (an (an (an cc rfl) rfl) rfl) rfl) rfl) rfl) (fun _ _=>rfl)
def Cj:dW ax 23 (eF (rI .i64)) (fun x y=>{x with groups:=y}):=bg (an (an (an (an (an (an (an cc rfl) rfl) rfl) rfl) rfl) rfl) rfl) (fun _ _=>rfl)
def CZ:g9 ax 24 (rI .i64) (fun x=>x.at_):=(av (av (av (av (av (av (av (av ba rfl) rfl) rfl) rfl) rfl) rfl) rfl) rfl)
def oI:dW ax 24 (rI .i64) (fun x y=>{x with at_:=y}):=bg (an (an (an (an (an (an (an (an al rfl) rfl) rfl) rfl) rfl) rfl) rfl) rfl) (fun _ _=>rfl)
structure xF where
 Col:Int
 Desc:Bool
 deriving DecidableEq,Inhabited
def lJ:Rp xF:=iT (bC (rI .i64) rB) (fun x=>(x.Col,x.Desc))
def If:g9 lJ 0 (rI .i64) (fun x=>x.Col):=(bS ba)
def Oe:dW lJ 0 (rI .i64) (fun x y=>{x with Col:=y}):=bg cc (fun _ _=>rfl)
def Od:dW lJ 1 rB (fun x y=>{x with Desc:=y}):=bg (an al rfl) (fun _ _=>rfl)
def NT: ∀S,lJ.rc S [.int .i64 0,.bool false] ((⟨(0:Int),false⟩:xF)):=fun _=>⟨[.int .i64 0],[.bool false],rfl,rfl,rfl⟩
structure bQ where
 Selects:(List aK)
 Names:(List cB)
 Kinds:(List Int)
 Order:(List xF)
 Limit:Int
 deriving DecidableEq,Inhabited
def cg:Rp bQ:=iT (bC (eF bj) (bC (eF rS) (bC (eF (rI .i64)) (bC (eF lJ) (rI .i64))))) (fun x=>(x.Selects,x.Names,x.Kinds,x.Order,x.Limit))
def xm:g9 cg 0 (eF bj) (fun x=>x.Selects):=(bS ba)
def xl:g9 cg 1 (eF rS) (fun x=>x.Names):=(bS (av ba rfl))
def qQ:g9 cg 2 (eF (rI .i64)) (fun x=>x.Kinds):=(bS (av (av ba rfl) rfl))
def C2:g9 cg 3 (eF lJ) (fun x=>x.Order):=(bS (av (av (av ba rfl) rfl) rfl))
def JM:g9 cg 4 (rI .i64) (fun x=>x.Limit):=(av (av (av (av ba rfl) rfl) rfl) rfl)
def nS: ∀S,cg.rc S [.slice none 0 0,.slice none 0 0,.slice none 0 0,.slice none 0 0,.int .i64 0] ((⟨[],[],[],[],(0:Int)⟩:bQ)):=fun _=>⟨[.slice none 0 0],[.slice none 0 0,.slice none 0 0,.slice none 0 0,.int .i64 0],rfl,⟨none,0,rfl,eX _,jM _,.inl rfl⟩,⟨[.slice none 0 0],[.slice none 0 0,.slice none 0 0,.int .i64 0],rfl,⟨none,0,rfl,eX _,jM _,.inl rfl⟩,⟨[.slice none 0 0],[.slice none 0 0,.int .i64 0],rfl,⟨none,0,rfl,eX _,jM _,.inl rfl⟩,⟨[.slice none 0 0],[.int .i64 0],rfl,⟨none,0,rfl,eX _,jM _,.inl rfl⟩,rfl⟩⟩⟩⟩
structure aw where
 c:au
 sources:(List dj)
 out:aK
 deriving DecidableEq,Inhabited
structure DB where
 Tables:Value
def gy:Rp DB:=iT rV (fun x=>(x.Tables))
def oa:g9 gy 0 rV (fun x=>x.Tables):=ba
def Ci:dW gy 0 rV (fun x y=>{x with Tables:=y}):=bg al (fun _ _=>rfl)
def ji(y:au)(v0:Value):DB:=⟨v0⟩
def xW: ∀S,gy.rc S [.slice none 0 0] (ji ((⟨[]⟩:au)) (Y none 0 0)):=fun _=>⟨rfl,rfl⟩
structure IH where
 Selects:Value
 Keys:(List tW)
 Limit:Int
def gT:Rp IH:=iT (bC rV (bC (eF jg) (rI .i64))) (fun x=>(x.Selects,x.Keys,x.Limit))
def yE:g9 gT 0 rV (fun x=>x.Selects):=(bS ba)
def FK:dW gT 1 (eF jg) (fun x y=>{x with Keys:=y}):=bg (an cc rfl) (fun _ _=>rfl)
def jB(y:bD)(v0:Value):IH:=⟨v0,y.Keys,y.Limit⟩
structure UC where
 Selects:Value
 Keys:Value
 Limit:Int
structure za where
 Selects:Value
 Names:(List cB)
 Kinds:Value
 Order:Value
 Limit:Int
def bY:Rp za:=iT (bC rV (bC (eF rS) (bC rV (bC rV (rI .i64))))) (fun x=>(x.Selects,x.Names,x.Kinds,x.Order,x.Limit))
def zZ:g9 bY 0 rV (fun x=>x.Selects):=(bS ba)
def zY:g9 bY 1 (eF rS) (fun x=>x.Names):=(bS (av ba rfl))
def zF:dW bY 1 (eF rS) (fun x y=>{x with Names:=y}):=bg (an cc rfl) (fun _ _=>rfl)
def zX:g9 bY 2 rV (fun x=>x.Kinds):=(bS (av (av ba rfl) rfl))
def zW:g9 bY 3 rV (fun x=>x.Order):=(bS (av (av (av ba rfl) rfl) rfl))
def zE:dW bY 4 (rI .i64) (fun x y=>{x with Limit:=y}):=bg (an (an (an (an al rfl) rfl) rfl) rfl) (fun _ _=>rfl)
def cO(y:bQ)(v0:Value)(v2:Value)(v3:Value):za:=⟨v0,y.Names,v2,v3,y.Limit⟩
def uy: ∀S,bY.rc S [.slice none 0 0,.slice none 0 0,.slice none 0 0,.slice none 0 0,.int .i64 0] (cO ((⟨[],[],[],[],(0:Int)⟩:bQ)) (Y none 0 0) (Y none 0 0) (Y none 0 0)):=fun _=>⟨[.slice none 0 0],[.slice none 0 0,.slice none 0 0,.slice none 0 0,.int .i64 0],rfl,⟨rfl,rfl⟩,⟨[.slice none 0 0],[.slice none 0 0,.slice none 0 0,.int .i64 0],rfl,⟨none,0,rfl,eX _,jM _,.inl rfl⟩,⟨[.slice none 0 0],[.slice none 0 0,.int .i64 0],rfl,⟨rfl,rfl⟩,⟨[.slice none 0 0],[.int .i64 0],rfl,⟨rfl,rfl⟩,rfl⟩⟩⟩⟩
structure UD where
 Selects:Value
 Names:(List cB)
 Kinds:(List Int)
 Order:Value
 Limit:Int
structure LO where
 Nodes:Value
def jN:Rp LO:=iT rV (fun x=>(x.Nodes))
def AP:g9 jN 0 rV (fun x=>x.Nodes):=ba
def Hm:dW jN 0 rV (fun x y=>{x with Nodes:=y}):=bg al (fun _ _=>rfl)
def lz(y:cy)(v0:Value):LO:=⟨v0⟩
def Eo: ∀S,jN.rc S [.slice none 0 0] (lz ((⟨[]⟩:cy)) (Y none 0 0)):=fun _=>⟨rfl,rfl⟩
structure Fk where
 Distinct:Bool
 Star:Bool
 Items:Value
 From:dj
 Joins:(List lT)
 Where:cy
 Having:cy
 Group:(List iN)
def AH:Rp Fk:=iT (bC rB (bC rB (bC rV (bC gc (bC (eF eZ) (bC bt (bC bt (eF eH)))))))) (fun x=>(x.Distinct,x.Star,x.Items,x.From,x.Joins,x.Where,x.Having,x.Group))
def AN(y:ay)(v2:Value):Fk:=⟨y.Distinct,y.Star,v2,y.From,y.Joins,y.Where,y.Having,y.Group⟩
structure A1 where
 Distinct:Bool
 Star:Bool
 Items:Value
 From:dj
 Joins:Value
 Where:cy
 Having:cy
 Group:(List iN)
def df:Rp A1:=iT (bC rB (bC rB (bC rV (bC gc (bC rV (bC bt (bC bt (eF eH)))))))) (fun x=>(x.Distinct,x.Star,x.Items,x.From,x.Joins,x.Where,x.Having,x.Group))
def uc:g9 df 2 rV (fun x=>x.Items):=(bS (av (av ba rfl) rfl))
def ub:g9 df 5 rV (fun x=>x.Joins):=(bS (av (av (av (av ba rfl) rfl) rfl) rfl))
def Bl:g9 df 6 bt (fun x=>x.Where):=(bS (av (av (av (av (av ba rfl) rfl) rfl) rfl) rfl))
def Bg:dW df 6 bt (fun x y=>{x with Where:=y}):=bg (an (an (an (an (an cc rfl) rfl) rfl) rfl) rfl) (fun _ _=>rfl)
def Bk:g9 df 7 bt (fun x=>x.Having):=(bS (av (av (av (av (av (av ba rfl) rfl) rfl) rfl) rfl) rfl))
def Bf:dW df 7 bt (fun x y=>{x with Having:=y}):=bg (an (an (an (an (an (an cc rfl) rfl) rfl) rfl) rfl) rfl) (fun _ _=>rfl)
def Be:dW df 8 (eF eH) (fun x y=>{x with Group:=y}):=bg (an (an (an (an (an (an (an al rfl) rfl) rfl) rfl) rfl) rfl) rfl) (fun _ _=>rfl)
def fS(y:ay)(v2:Value)(v4:Value):A1:=⟨y.Distinct,y.Star,v2,y.From,v4,y.Where,y.Having,y.Group⟩
def DQ: ∀S,df.rc S [.bool false,.bool false,.slice none 0 0,.string ⟨#[]⟩,.string ⟨#[]⟩,.slice none 0 0,.slice none 0 0,.slice none 0 0,.slice none 0 0] (fS ((⟨false,false,[],(⟨[],[]⟩:dj),[],(⟨[]⟩:cy),(⟨[]⟩:cy),[]⟩:ay)) (Y none 0 0) (Y none 0 0)):=fun _=>⟨[.bool false],[.bool false,.slice none 0 0,.string ⟨#[]⟩,.string ⟨#[]⟩,.slice none 0 0,.slice none 0 0,.slice none 0 0,.slice none 0 0],rfl,rfl,⟨[.bool false],[.slice none 0 0,.string ⟨#[]⟩,.string ⟨#[]⟩,.slice none 0 0,.slice none 0 0,.slice none 0 0,.slice none 0 0],rfl,rfl,⟨[.slice none 0 0],[.string ⟨#[]⟩,.string ⟨#[]⟩,.slice none 0 0,.slice none 0 0,.slice none 0 0,.slice none 0 0],rfl,⟨rfl,rfl⟩,⟨[.string ⟨#[]⟩,.string ⟨#[]⟩],[.slice none 0 0,.slice none 0 0,.slice none 0 0,.slice none 0 0],rfl,vt _,⟨[.slice none 0 0],[.slice none 0 0,.slice none 0 0,.slice none 0 0],rfl,⟨rfl,rfl⟩,⟨[.slice none 0 0],[.slice none 0 0,.slice none 0 0],rfl,pU _,⟨[.slice none 0 0],[.slice none 0 0],rfl,pU _,⟨none,0,rfl,eX _,jM _,.inl rfl⟩⟩⟩⟩⟩⟩⟩⟩
structure WO where
 Nodes:Value
structure y9 where
 Catalog:au
 from_:ay
 out:aK
 called:Value
 alone:Value
 behind:Value
 kinds:(List Int)
 groups:(List Int)
 at_:Int
def eE:Rp y9:=iT (bC bq (bC bb (bC bj (bC rV (bC rV (bC rV (bC (eF (rI .i64)) (bC (eF (rI .i64)) (rI .i64))))))))) (fun x=>(x.Catalog,x.from_,x.out,x.called,x.alone,x.behind,x.kinds,x.groups,x.at_))
def zD:dW eE 0 bq (fun x y=>{x with Catalog:=y}):=bg cc (fun _ _=>rfl)
def zC:dW eE 1 bb (fun x y=>{x with from_:=y}):=bg (an cc rfl) (fun _ _=>rfl)
def zU:g9 eE 19 rV (fun x=>x.called):=(bS (av (av (av ba rfl) rfl) rfl))
def zB:dW eE 19 rV (fun x y=>{x with called:=y}):=bg (an (an (an cc rfl) rfl) rfl) (fun _ _=>rfl)
def zT:g9 eE 20 rV (fun x=>x.alone):=(bS (av (av (av (av ba rfl) rfl) rfl) rfl))
def zA:dW eE 20 rV (fun x y=>{x with alone:=y}):=bg (an (an (an (an cc rfl) rfl) rfl) rfl) (fun _ _=>rfl)
def zS:g9 eE 21 rV (fun x=>x.behind):=(bS (av (av (av (av (av ba rfl) rfl) rfl) rfl) rfl))
def zz:dW eE 21 rV (fun x y=>{x with behind:=y}):=bg (an (an (an (an (an cc rfl) rfl) rfl) rfl) rfl) (fun _ _=>rfl)
def n9(y:ac)(v3:Value)(v4:Value)(v5:Value):y9:=⟨y.Catalog,y.from_,y.out,v3,v4,v5,y.kinds,y.groups,y.at_⟩
def BX: ∀S,eE.rc S [.slice none 0 0,.bool false,.bool false,.slice none 0 0,.string ⟨#[]⟩,.string ⟨#[]⟩,.slice none 0 0,.slice none 0 0,.slice none 0 0,.slice none 0 0,.slice none 0 0,.slice none 0 0,.slice none 0 0,.slice none 0 0,.bool false,.bool false,.slice none 0 0,.slice none 0 0,.slice none 0 0,.map none,.map none,.map none,.slice none 0 0,.slice none 0 0,.int .i64 0] (n9 ((⟨(⟨[]⟩:au),(⟨false,false,[],(⟨[],[]⟩:dj),[],(⟨[]⟩:cy),(⟨[]⟩:cy),[]⟩:ay),(⟨[],[],(⟨[]⟩:aB),(⟨[]⟩:aB),false,false,[],[],[]⟩:aK),[],[],[],[],[],(0:Int)⟩:ac)) (.map none) (.map none) (.map none)):=fun _=>⟨[.slice none 0 0],[.bool false,.bool false,.slice none 0 0,.string ⟨#[]⟩,.string ⟨#[]⟩,.slice none 0 0,.slice none 0 0,.slice none 0 0,.slice none 0 0,.slice none 0 0,.slice none 0 0,.slice none 0 0,.slice none 0 0,.bool false,.bool false,.slice none 0 0,.slice none 0 0,.slice none 0 0,.map none,.map none,.map none,.slice none 0 0,.slice none 0 0,.int .i64 0],rfl,oF _,⟨[.bool false,.bool false,.slice none 0 0,.string ⟨#[]⟩,.string ⟨#[]⟩,.slice none 0 0,.slice none 0 0,.slice none 0 0,.slice none 0 0],[.slice none 0 0,.slice none 0 0,.slice none 0 0,.slice none 0 0,.bool false,.bool false,.slice none 0 0,.slice none 0 0,.slice none 0 0,.map none,.map none,.map none,.slice none 0 0,.slice none 0 0,.int .i64 0],rfl,zl _,⟨[.slice none 0 0,.slice none 0 0,.slice none 0 0,.slice none 0 0,.bool false,.bool false,.slice none 0 0,.slice none 0 0,.slice none 0 0],[.map none,.map none,.map none,.slice none 0 0,.slice none 0 0,.int .i64 0],rfl,BY _,⟨[.map none],[.map none,.map none,.slice none 0 0,.slice none 0 0,.int .i64 0],rfl,⟨rfl,rfl⟩,⟨[.map none],[.map none,.slice none 0 0,.slice none 0 0,.int .i64 0],rfl,⟨rfl,rfl⟩,⟨[.map none],[.slice none 0 0,.slice none 0 0,.int .i64 0],rfl,⟨rfl,rfl⟩,⟨[.slice none 0 0],[.slice none 0 0,.int .i64 0],rfl,⟨none,0,rfl,eX _,jM _,.inl rfl⟩,⟨[.slice none 0 0],[.int .i64 0],rfl,⟨none,0,rfl,eX _,jM _,.inl rfl⟩,rfl⟩⟩⟩⟩⟩⟩⟩⟩
def yS{S:SH}{cs:List Value}{y:au}{v0:Value}{xs0:(List bH)}(k0:(eF cA).rc S [v0] xs0)(h:gy.rc S cs (ji y v0)):bq.rc S cs ((⟨xs0⟩:au)):=by
 have h0:=h
 exact(by rw [h0.1];exact k0)
def Bn{S:SH}{cs:List Value}{y:bD}{v0:Value}{xs0:(List ay)}(k0:(eF bb).rc S [v0] xs0)(h:gT.rc S cs (jB y v0)):bI.rc S cs ((⟨xs0,y.Keys,y.Limit⟩:bD)):=by
 obtain⟨a0,b0,e0,h0,a1,b1,e1,A,V⟩:=h
 exact⟨a0,b0,e0,(by rw [h0.1];exact k0),a1,b1,e1,A,V⟩
def wj{S:SH}{cs:List Value}{y:bQ}{v0:Value}{v2:Value}{v3:Value}{xs0:(List aK)}(k0:(eF bj).rc S [v0] xs0){xs2:(List Int)}(k2:(eF (rI .i64)).rc S [v2] xs2){xs3:(List xF)}(k3:(eF lJ).rc S [v3] xs3)(h:bY.rc S cs (cO y v0 v2 v3)):cg.rc S cs ((⟨xs0,y.Names,xs2,xs3,y.Limit⟩:bQ)):=by
 obtain⟨a0,b0,e0,h0,a1,b1,e1,A,a2,b2,e2,V,a3,b3,e3,h3,h4⟩:=h
 exact⟨a0,b0,e0,(by rw [h0.1];exact k0),a1,b1,e1,A,a2,b2,e2,(by rw [V.1];exact k2),a3,b3,e3,(by rw [h3.1];exact k3),h4⟩
def Di{S:SH}{cs:List Value}{y:cy}{v0:Value}{xs0:(List cw)}(k0:(eF cz).rc S [v0] xs0)(h:jN.rc S cs (lz y v0)):bt.rc S cs ((⟨xs0⟩:cy)):=by
 have h0:=h
 exact(by rw [h0.1];exact k0)
def xx{S:SH}{cs:List Value}{y:ay}{v2:Value}{v4:Value}{xs2:(List eG)}(k2:(eF dC).rc S [v2] xs2){xs4:(List lT)}(k4:(eF eZ).rc S [v4] xs4)(h:df.rc S cs (fS y v2 v4)):bb.rc S cs ((⟨y.Distinct,y.Star,xs2,y.From,xs4,y.Where,y.Having,y.Group⟩:ay)):=by
 obtain⟨a0,b0,e0,h0,a1,b1,e1,A,a2,b2,e2,V,a3,b3,e3,h3,a4,b4,e4,h4,a5,b5,e5,h5,a6,b6,e6,h6,h7⟩:=h
 exact⟨a0,b0,e0,h0,a1,b1,e1,A,a2,b2,e2,(by rw [V.1];exact k2),a3,b3,e3,h3,a4,b4,e4,(by rw [h4.1];exact k4),a5,b5,e5,h5,a6,b6,e6,h6,h7⟩
def wi{S:SH}{cs:List Value}{y:ac}{v3:Value}{v4:Value}{v5:Value}{xs3:(List (cB×Bool))}(k3:(MA:Rp (List (cB×Bool))).rc S [v3] xs3){xs4:(List (cB×(List Int)))}(k4:(MA:Rp (List (cB×(List Int)))).rc S [v4] xs4){xs5:(List ((cB×cB)×Int))}(k5:(MA:Rp (List ((cB×cB)×Int))).rc S [v5] xs5)(h:eE.rc S cs (n9 y v3 v4 v5)):ax.rc S cs ((⟨y.Catalog,y.from_,y.out,xs3,xs4,xs5,y.kinds,y.groups,y.at_⟩:ac)):=by
 obtain⟨a0,b0,e0,h0,a1,b1,e1,A,a2,b2,e2,V,a3,b3,e3,h3,a4,b4,e4,h4,a5,b5,e5,h5,a6,b6,e6,h6,a7,b7,e7,h7,h8⟩:=h
 exact⟨a0,b0,e0,h0,a1,b1,e1,A,a2,b2,e2,V,a3,b3,e3,(by rw [h3.1];exact k3),a4,b4,e4,(by rw [h4.1];exact k4),a5,b5,e5,(by rw [h5.1];exact k5),a6,b6,e6,h6,a7,b7,e7,h7,h8⟩
def wU(y:bD)(v:Value):pA bI gT 0 rV (y) v (jB y v):=vx (vy (gS rfl) rfl) rfl
def pM(y:bQ)(v2:Value)(v3:Value)(u:Value)(v:Value):pA bY bY 0 rV (cO y u v2 v3) v (cO y v v2 v3):=vx (vy (gS rfl) rfl) rfl
def pL(y:bQ)(v0:Value)(v3:Value)(u:Value)(v:Value):pA bY bY 2 rV (cO y v0 u v3) v (cO y v0 v v3):=vx (nW (nW (vy (gS rfl) rfl) rfl) rfl) rfl
def pK(y:bQ)(v0:Value)(v2:Value)(u:Value)(v:Value):pA bY bY 3 rV (cO y v0 v2 u) v (cO y v0 v2 v):=vx (nW (nW (nW (vy (gS rfl) rfl) rfl) rfl) rfl) rfl
def we(y:ay)(v:Value):pA bb AH 2 rV (y) v (AN y v):=vx (nW (nW (vy (gS rfl) rfl) rfl) rfl) rfl
def sD(y:ay)(v2:Value)(v:Value):pA AH df 5 rV (AN y v2) v (fS y v2 v):=vx (nW (nW (nW (nW (vy (gS rfl) rfl) rfl) rfl) rfl) rfl) rfl
def cx(b:Nat)(x:ac)(i:OI):List OE:=[bx (rH ax [(10,Y (i.h 0).1 (i.h 0).2 x.out.Tables.length),(11,Y (i.h 1).1 (i.h 1).2 x.out.Joins.length),(16,Y (i.h 2).1 (i.h 2).2 x.out.Keys.length),(17,Y (i.h 3).1 (i.h 3).2 x.out.Aggs.length),(18,Y (i.h 4).1 (i.h 4).2 x.out.Items.length),(22,Y (i.h 5).1 (i.h 5).2 x.kinds.length),(23,Y (i.h 6).1 (i.h 6).2 x.groups.length),(19,am (i.h 7).2),(20,am (i.h 8).2),(21,am (i.h 9).2)]) 127 b x,Z (rI .i64) 3 (i.h 0).1 (i.h 0).2 x.out.Tables,Z aD 71 (i.h 1).1 (i.h 1).2 x.out.Joins,Z (rI .i64) 3 (i.h 2).1 (i.h 2).2 x.out.Keys,Z aR 73 (i.h 3).1 (i.h 3).2 x.out.Aggs,Z ae 62 (i.h 4).1 (i.h 4).2 x.out.Items,Z (rI .i64) 3 (i.h 5).1 (i.h 5).2 x.kinds,Z (rI .i64) 3 (i.h 6).1 (i.h 6).2 x.groups,br (F4 (fun y:Bool=>K rB y)) dn (i.h 7).2 none (i.oss 0) x.called,br (Sr (rI .i64) 3) dn (i.h 8).2 none (i.oss 1) x.alone,dG (fun y:Int=>K (rI .i64) y) iX (i.h 9).2 x.behind]
def Ve{hb:HL}{y:ac}{v3 v4 v5:Value}{S:SH}{u:Value}(h:(K (rH eE hb) (n9 y v3 v4 v5)).p S u)(k3:v3.oneCell' =true)(k4:v4.oneCell' =true)(k5:v5.oneCell' =true):(K (rH ax (hb++[(19,v3),(20,v4),(21,v5)])) (⟨y.Catalog,y.from_,y.out,[],[],[],y.kinds,y.groups,y.at_⟩:ac)).p S u:=by
 obtain⟨cs,e,A,V⟩:=h
 refine⟨cs,e,wi ⟨_,rfl,k3⟩ ⟨_,rfl,k4⟩ ⟨_,rfl,k5⟩ A,fun p hp=>?_⟩
 rcases uu.1 hp with hp|hp
 ·exact V p hp
 ·simp only [lK,List.not_mem_nil,or_false]at hp
  rcases hp with rfl|rfl|rfl
  ·have h3:=OZ zU A
   exact h3
  ·have h3:=OZ zT A
   exact h3
  ·have h3:=OZ zS A
   exact h3
def TE:(List Fn):=[(⟨[98,111,111,108],(1:Int)⟩:Fn),(⟨[105,110,116],(2:Int)⟩:Fn),(⟨[116,101,120,116],(3:Int)⟩:Fn)]
def gm0:((0:Nat),([.string ⟨([98,111,111,108]:List UInt8).toArray⟩,.int .i64 (1),.string ⟨([105,110,116]:List UInt8).toArray⟩,.int .i64 (2),.string ⟨([116,101,120,116]:List UInt8).toArray⟩,.int .i64 (3)]:List Value))∈glob:=by simp [glob]
def gr0: ∀S,(n8 vz 3).rc S ([.string ⟨([98,111,111,108]:List UInt8).toArray⟩,.int .i64 (1),.string ⟨([105,110,116]:List UInt8).toArray⟩,.int .i64 (2),.string ⟨([116,101,120,116]:List UInt8).toArray⟩,.int .i64 (3)]:List Value) TE:=fun _=>⟨rfl,⟨[.string ⟨([98,111,111,108]:List UInt8).toArray⟩,.int .i64 (1)],[.string ⟨([105,110,116]:List UInt8).toArray⟩,.int .i64 (2),.string ⟨([116,101,120,116]:List UInt8).toArray⟩,.int .i64 (3)],rfl,⟨[.string ⟨([98,111,111,108]:List UInt8).toArray⟩],[.int .i64 (1)],rfl,rfl,rfl⟩,⟨[.string ⟨([105,110,116]:List UInt8).toArray⟩,.int .i64 (2)],[.string ⟨([116,101,120,116]:List UInt8).toArray⟩,.int .i64 (3)],rfl,⟨[.string ⟨([105,110,116]:List UInt8).toArray⟩],[.int .i64 (2)],rfl,rfl,rfl⟩,⟨[.string ⟨([116,101,120,116]:List UInt8).toArray⟩,.int .i64 (3)],[],rfl,⟨[.string ⟨([116,101,120,116]:List UInt8).toArray⟩],[.int .i64 (3)],rfl,rfl,rfl⟩,(rfl:_=[])⟩⟩⟩⟩
def Vq:(List cB):=[[83,69,76,69,67,84],[68,73,83,84,73,78,67,84],[70,82,79,77],[76,69,70,84],[74,79,73,78],[79,78],[87,72,69,82,69],[71,82,79,85,80],[66,89],[72,65,86,73,78,71],[85,78,73,79,78],[65,76,76],[79,82,68,69,82],[76,73,77,73,84],[65,83,67],[68,69,83,67],[65,83],[65,78,68],[79,82],[78,79,84],[73,83],[78,85,76,76],[84,82,85,69],[70,65,76,83,69],[67,79,85,78,84],[83,85,77],[77,73,78],[77,65,88]]
def gm1:((1:Nat),([.string ⟨([83,69,76,69,67,84]:List UInt8).toArray⟩,.string ⟨([68,73,83,84,73,78,67,84]:List UInt8).toArray⟩,.string ⟨([70,82,79,77]:List UInt8).toArray⟩,.string ⟨([76,69,70,84]:List UInt8).toArray⟩,.string ⟨([74,79,73,78]:List UInt8).toArray⟩,.string ⟨([79,78]:List UInt8).toArray⟩,.string ⟨([87,72,69,82,69]:List UInt8).toArray⟩,.string ⟨([71,82,79,85,80]:List UInt8).toArray⟩,.string ⟨([66,89]:List UInt8).toArray⟩,.string ⟨([72,65,86,73,78,71]:List UInt8).toArray⟩,.string ⟨([85,78,73,79,78]:List UInt8).toArray⟩,.string ⟨([65,76,76]:List UInt8).toArray⟩,.string ⟨([79,82,68,69,82]:List UInt8).toArray⟩,.string ⟨([76,73,77,73,84]:List UInt8).toArray⟩,.string ⟨([65,83,67]:List UInt8).toArray⟩,.string ⟨([68,69,83,67]:List UInt8).toArray⟩,.string ⟨([65,83]:List UInt8).toArray⟩,.string ⟨([65,78,68]:List UInt8).toArray⟩,.string ⟨([79,82]:List UInt8).toArray⟩,.string ⟨([78,79,84]:List UInt8).toArray⟩,.string ⟨([73,83]:List UInt8).toArray⟩,.string ⟨([78,85,76,76]:List UInt8).toArray⟩,.string ⟨([84,82,85,69]:List UInt8).toArray⟩,.string ⟨([70,65,76,83,69]:List UInt8).toArray⟩,.string ⟨([67,79,85,78,84]:List UInt8).toArray⟩,.string ⟨([83,85,77]:List UInt8).toArray⟩,.string ⟨([77,73,78]:List UInt8).toArray⟩,.string ⟨([77,65,88]:List UInt8).toArray⟩]:List Value))∈glob:=by simp [glob]
def gr1: ∀S,(n8 rS 28).rc S ([.string ⟨([83,69,76,69,67,84]:List UInt8).toArray⟩,.string ⟨([68,73,83,84,73,78,67,84]:List UInt8).toArray⟩,.string ⟨([70,82,79,77]:List UInt8).toArray⟩,.string ⟨([76,69,70,84]:List UInt8).toArray⟩,.string ⟨([74,79,73,78]:List UInt8).toArray⟩,.string ⟨([79,78]:List UInt8).toArray⟩,.string ⟨([87,72,69,82,69]:List UInt8).toArray⟩,.string ⟨([71,82,79,85,80]:List UInt8).toArray⟩,.string ⟨([66,89]:List UInt8).toArray⟩,.string ⟨([72,65,86,73,78,71]:List UInt8).toArray⟩,.string ⟨([85,78,73,79,78]:List UInt8).toArray⟩,.string ⟨([65,76,76]:List UInt8).toArray⟩,.string ⟨([79,82,68,69,82]:List UInt8).toArray⟩,.string ⟨([76,73,77,73,84]:List UInt8).toArray⟩,.string ⟨([65,83,67]:List UInt8).toArray⟩,.string ⟨([68,69,83,67]:List UInt8).toArray⟩,.string ⟨([65,83]:List UInt8).toArray⟩,.string ⟨([65,78,68]:List UInt8).toArray⟩,.string ⟨([79,82]:List UInt8).toArray⟩,.string ⟨([78,79,84]:List UInt8).toArray⟩,.string ⟨([73,83]:List UInt8).toArray⟩,.string ⟨([78,85,76,76]:List UInt8).toArray⟩,.string ⟨([84,82,85,69]:List UInt8).toArray⟩,.string ⟨([70,65,76,83,69]:List UInt8).toArray⟩,.string ⟨([67,79,85,78,84]:List UInt8).toArray⟩,.string ⟨([83,85,77]:List UInt8).toArray⟩,.string ⟨([77,73,78]:List UInt8).toArray⟩,.string ⟨([77,65,88]:List UInt8).toArray⟩]:List Value) Vq:=fun _=>⟨rfl,⟨[.string ⟨([83,69,76,69,67,84]:List UInt8).toArray⟩],[.string ⟨([68,73,83,84,73,78,67,84]:List UInt8).toArray⟩,.string ⟨([70,82,79,77]:List UInt8).toArray⟩,.string ⟨([76,69,70,84]:List UInt8).toArray⟩,.string ⟨([74,79,73,78]:List UInt8).toArray⟩,.string ⟨([79,78]:List UInt8).toArray⟩,.string ⟨([87,72,69,82,69]:List UInt8).toArray⟩,.string ⟨([71,82,79,85,80]:List UInt8).toArray⟩,.string ⟨([66,89]:List UInt8).toArray⟩,.string ⟨([72,65,86,73,78,71]:List UInt8).toArray⟩,.string ⟨([85,78,73,79,78]:List UInt8).toArray⟩,.string ⟨([65,76,76]:List UInt8).toArray⟩,.string ⟨([79,82,68,69,82]:List UInt8).toArray⟩,.string ⟨([76,73,77,73,84]:List UInt8).toArray⟩,.string ⟨([65,83,67]:List UInt8).toArray⟩,.string ⟨([68,69,83,67]:List UInt8).toArray⟩,.string ⟨([65,83]:List UInt8).toArray⟩,.string ⟨([65,78,68]:List UInt8).toArray⟩,.string ⟨([79,82]:List UInt8).toArray⟩,.string ⟨([78,79,84]:List UInt8).toArray⟩,.string ⟨([73,83]:List UInt8).toArray⟩,.string ⟨([78,85,76,76]:List UInt8).toArray⟩,.string ⟨([84,82,85,69]:List UInt8).toArray⟩,.string ⟨([70,65,76,83,69]:List UInt8).toArray⟩,.string ⟨([67,79,85,78,84]:List UInt8).toArray⟩,.string ⟨([83,85,77]:List UInt8).toArray⟩,.string ⟨([77,73,78]:List UInt8).toArray⟩,.string ⟨([77,65,88]:List UInt8).toArray⟩],rfl,rfl,⟨[.string ⟨([68,73,83,84,73,78,67,84]:List UInt8).toArray⟩],[.string ⟨([70,82,79,77]:List UInt8).toArray⟩,.string ⟨([76,69,70,84]:List UInt8).toArray⟩,.string ⟨([74,79,73,78]:List UInt8).toArray⟩,.string ⟨([79,78]:List UInt8).toArray⟩,.string ⟨([87,72,69,82,69]:List UInt8).toArray⟩,.string ⟨([71,82,79,85,80]:List UInt8).toArray⟩,.string ⟨([66,89]:List UInt8).toArray⟩,.string ⟨([72,65,86,73,78,71]:List UInt8).toArray⟩,.string ⟨([85,78,73,79,78]:List UInt8).toArray⟩,.string ⟨([65,76,76]:List UInt8).toArray⟩,.string ⟨([79,82,68,69,82]:List UInt8).toArray⟩,.string ⟨([76,73,77,73,84]:List UInt8).toArray⟩,.string ⟨([65,83,67]:List UInt8).toArray⟩,.string ⟨([68,69,83,67]:List UInt8).toArray⟩,.string ⟨([65,83]:List UInt8).toArray⟩,.string ⟨([65,78,68]:List UInt8).toArray⟩,.string ⟨([79,82]:List UInt8).toArray⟩,.string ⟨([78,79,84]:List UInt8).toArray⟩,.string ⟨([73,83]:List UInt8).toArray⟩,.string ⟨([78,85,76,76]:List UInt8).toArray⟩,.string ⟨([84,82,85,69]:List UInt8).toArray⟩,.string ⟨([70,65,76,83,69]:List UInt8).toArray⟩,.string ⟨([67,79,85,78,84]:List UInt8).toArray⟩,.string ⟨([83,85,77]:List UInt8).toArray⟩,.string ⟨([77,73,78]:List UInt8).toArray⟩,.string ⟨([77,65,88]:List UInt8).toArray⟩],rfl,rfl,⟨[.string ⟨([70,82,79,77]:List UInt8).toArray⟩],[.string ⟨([76,69,70,84]:List UInt8).toArray⟩,.string ⟨([74,79,73,78]:List UInt8).toArray⟩,.string ⟨([79,78]:List UInt8).toArray⟩,.string ⟨([87,72,69,82,69]:List UInt8).toArray⟩,.string ⟨([71,82,79,85,80]:List UInt8).toArray⟩,.string ⟨([66,89]:List UInt8).toArray⟩,.string ⟨([72,65,86,73,78,71]:List UInt8).toArray⟩,.string ⟨([85,78,73,79,78]:List UInt8).toArray⟩,.string ⟨([65,76,76]:List UInt8).toArray⟩,.string ⟨([79,82,68,69,82]:List UInt8).toArray⟩,.string ⟨([76,73,77,73,84]:List UInt8).toArray⟩,.string ⟨([65,83,67]:List UInt8).toArray⟩,.string ⟨([68,69,83,67]:List UInt8).toArray⟩,.string ⟨([65,83]:List UInt8).toArray⟩,.string ⟨([65,78,68]:List UInt8).toArray⟩,.string ⟨([79,82]:List UInt8).toArray⟩,.string ⟨([78,79,84]:List UInt8).toArray⟩,.string ⟨([73,83]:List UInt8).toArray⟩,.string ⟨([78,85,76,76]:List UInt8).toArray⟩,.string ⟨([84,82,85,69]:List UInt8).toArray⟩,.string ⟨([70,65,76,83,69]:List UInt8).toArray⟩,.string ⟨([67,79,85,78,84]:List UInt8).toArray⟩,.string ⟨([83,85,77]:List UInt8).toArray⟩,.string ⟨([77,73,78]:List UInt8).toArray⟩,.string ⟨([77,65,88]:List UInt8).toArray⟩],rfl,rfl,⟨[.string ⟨([76,69,70,84]:List UInt8).toArray⟩],[.string ⟨([74,79,73,78]:List UInt8).toArray⟩,.string ⟨([79,78]:List UInt8).toArray⟩,.string ⟨([87,72,69,82,69]:List UInt8).toArray⟩,.string ⟨([71,82,79,85,80]:List UInt8).toArray⟩,.string ⟨([66,89]:List UInt8).toArray⟩,.string ⟨([72,65,86,73,78,71]:List UInt8).toArray⟩,.string ⟨([85,78,73,79,78]:List UInt8).toArray⟩,.string ⟨([65,76,76]:List UInt8).toArray⟩,.string ⟨([79,82,68,69,82]:List UInt8).toArray⟩,.string ⟨([76,73,77,73,84]:List UInt8).toArray⟩,.string ⟨([65,83,67]:List UInt8).toArray⟩,.string ⟨([68,69,83,67]:List UInt8).toArray⟩,.string ⟨([65,83]:List UInt8).toArray⟩,.string ⟨([65,78,68]:List UInt8).toArray⟩,.string ⟨([79,82]:List UInt8).toArray⟩,.string ⟨([78,79,84]:List UInt8).toArray⟩,.string ⟨([73,83]:List UInt8).toArray⟩,.string ⟨([78,85,76,76]:List UInt8).toArray⟩,.string ⟨([84,82,85,69]:List UInt8).toArray⟩,.string ⟨([70,65,76,83,69]:List UInt8).toArray⟩,.string ⟨([67,79,85,78,84]:List UInt8).toArray⟩,.string ⟨([83,85,77]:List UInt8).toArray⟩,.string ⟨([77,73,78]:List UInt8).toArray⟩,.string ⟨([77,65,88]:List UInt8).toArray⟩],rfl,rfl,⟨[.string ⟨([74,79,73,78]:List UInt8).toArray⟩],[.string ⟨([79,78]:List UInt8).toArray⟩,.string ⟨([87,72,69,82,69]:List UInt8).toArray⟩,.string ⟨([71,82,79,85,80]:List UInt8).toArray⟩,.string ⟨([66,89]:List UInt8).toArray⟩,.string ⟨([72,65,86,73,78,71]:List UInt8).toArray⟩,.string ⟨([85,78,73,79,78]:List UInt8).toArray⟩,.string ⟨([65,76,76]:List UInt8).toArray⟩,.string ⟨([79,82,68,69,82]:List UInt8).toArray⟩,.string ⟨([76,73,77,73,84]:List UInt8).toArray⟩,.string ⟨([65,83,67]:List UInt8).toArray⟩,.string ⟨([68,69,83,67]:List UInt8).toArray⟩,.string ⟨([65,83]:List UInt8).toArray⟩,.string ⟨([65,78,68]:List UInt8).toArray⟩,.string ⟨([79,82]:List UInt8).toArray⟩,.string ⟨([78,79,84]:List UInt8).toArray⟩,.string ⟨([73,83]:List UInt8).toArray⟩,.string ⟨([78,85,76,76]:List UInt8).toArray⟩,.string ⟨([84,82,85,69]:List UInt8).toArray⟩,.string ⟨([70,65,76,83,69]:List UInt8).toArray⟩,.string ⟨([67,79,85,78,84]:List UInt8).toArray⟩,.string ⟨([83,85,77]:List UInt8).toArray⟩,.string ⟨([77,73,78]:List UInt8).toArray⟩,.string ⟨([77,65,88]:List UInt8).toArray⟩],rfl,rfl,⟨[.string ⟨([79,78]:List UInt8).toArray⟩],[.string ⟨([87,72,69,82,69]:List UInt8).toArray⟩,.string ⟨([71,82,79,85,80]:List UInt8).toArray⟩,.string ⟨([66,89]:List UInt8).toArray⟩,.string ⟨([72,65,86,73,78,71]:List UInt8).toArray⟩,.string ⟨([85,78,73,79,78]:List UInt8).toArray⟩,.string ⟨([65,76,76]:List UInt8).toArray⟩,.string ⟨([79,82,68,69,82]:List UInt8).toArray⟩,.string ⟨([76,73,77,73,84]:List UInt8).toArray⟩,.string ⟨([65,83,67]:List UInt8).toArray⟩,.string ⟨([68,69,83,67]:List UInt8).toArray⟩,.string ⟨([65,83]:List UInt8).toArray⟩,.string ⟨([65,78,68]:List UInt8).toArray⟩,.string ⟨([79,82]:List UInt8).toArray⟩,.string ⟨([78,79,84]:List UInt8).toArray⟩,.string ⟨([73,83]:List UInt8).toArray⟩,.string ⟨([78,85,76,76]:List UInt8).toArray⟩,.string ⟨([84,82,85,69]:List UInt8).toArray⟩,.string ⟨([70,65,76,83,69]:List UInt8).toArray⟩,.string ⟨([67,79,85,78,84]:List UInt8).toArray⟩,.string ⟨([83,85,77]:List UInt8).toArray⟩,.string ⟨([77,73,78]:List UInt8).toArray⟩,.string ⟨([77,65,88]:List UInt8).toArray⟩],rfl,rfl,⟨[.string ⟨([87,72,69,82,69]:List UInt8).toArray⟩],[.string ⟨([71,82,79,85,80]:List UInt8).toArray⟩,.string ⟨([66,89]:List UInt8).toArray⟩,.string ⟨([72,65,86,73,78,71]:List UInt8).toArray⟩,.string ⟨([85,78,73,79,78]:List UInt8).toArray⟩,.string ⟨([65,76,76]:List UInt8).toArray⟩,.string ⟨([79,82,68,69,82]:List UInt8).toArray⟩,.string ⟨([76,73,77,73,84]:List UInt8).toArray⟩,.string ⟨([65,83,67]:List UInt8).toArray⟩,.string ⟨([68,69,83,67]:List UInt8).toArray⟩,.string ⟨([65,83]:List UInt8).toArray⟩,.string ⟨([65,78,68]:List UInt8).toArray⟩,.string ⟨([79,82]:List UInt8).toArray⟩,.string ⟨([78,79,84]:List UInt8).toArray⟩,.string ⟨([73,83]:List UInt8).toArray⟩,.string ⟨([78,85,76,76]:List UInt8).toArray⟩,.string ⟨([84,82,85,69]:List UInt8).toArray⟩,.string ⟨([70,65,76,83,69]:List UInt8).toArray⟩,.string ⟨([67,79,85,78,84]:List UInt8).toArray⟩,.string ⟨([83,85,77]:List UInt8).toArray⟩,.string ⟨([77,73,78]:List UInt8).toArray⟩,.string ⟨([77,65,88]:List UInt8).toArray⟩],rfl,rfl,⟨[.string ⟨([71,82,79,85,80]:List UInt8).toArray⟩],[.string ⟨([66,89]:List UInt8).toArray⟩,.string ⟨([72,65,86,73,78,71]:List UInt8).toArray⟩,.string ⟨([85,78,73,79,78]:List UInt8).toArray⟩,.string ⟨([65,76,76]:List UInt8).toArray⟩,.string ⟨([79,82,68,69,82]:List UInt8).toArray⟩,.string ⟨([76,73,77,73,84]:List UInt8).toArray⟩,.string ⟨([65,83,67]:List UInt8).toArray⟩,.string ⟨([68,69,83,67]:List UInt8).toArray⟩,.string ⟨([65,83]:List UInt8).toArray⟩,.string ⟨([65,78,68]:List UInt8).toArray⟩,.string ⟨([79,82]:List UInt8).toArray⟩,.string ⟨([78,79,84]:List UInt8).toArray⟩,.string ⟨([73,83]:List UInt8).toArray⟩,.string ⟨([78,85,76,76]:List UInt8).toArray⟩,.string ⟨([84,82,85,69]:List UInt8).toArray⟩,.string ⟨([70,65,76,83,69]:List UInt8).toArray⟩,.string ⟨([67,79,85,78,84]:List UInt8).toArray⟩,.string ⟨([83,85,77]:List UInt8).toArray⟩,.string ⟨([77,73,78]:List UInt8).toArray⟩,.string ⟨([77,65,88]:List UInt8).toArray⟩],rfl,rfl,⟨[.string ⟨([66,89]:List UInt8).toArray⟩],[.string ⟨([72,65,86,73,78,71]:List UInt8).toArray⟩,.string ⟨([85,78,73,79,78]:List UInt8).toArray⟩,.string ⟨([65,76,76]:List UInt8).toArray⟩,.string ⟨([79,82,68,69,82]:List UInt8).toArray⟩,.string ⟨([76,73,77,73,84]:List UInt8).toArray⟩,.string ⟨([65,83,67]:List UInt8).toArray⟩,.string ⟨([68,69,83,67]:List UInt8).toArray⟩,.string ⟨([65,83]:List UInt8).toArray⟩,.string ⟨([65,78,68]:List UInt8).toArray⟩,.string ⟨([79,82]:List UInt8).toArray⟩,.string ⟨([78,79,84]:List UInt8).toArray⟩,.string ⟨([73,83]:List UInt8).toArray⟩,.string ⟨([78,85,76,76]:List UInt8).toArray⟩,.string ⟨([84,82,85,69]:List UInt8).toArray⟩,.string ⟨([70,65,76,83,69]:List UInt8).toArray⟩,.string ⟨([67,79,85,78,84]:List UInt8).toArray⟩,.string ⟨([83,85,77]:List UInt8).toArray⟩,.string ⟨([77,73,78]:List UInt8).toArray⟩,.string ⟨([77,65,88]:List UInt8).toArray⟩],rfl,rfl,⟨[.string ⟨([72,65,86,73,78,71]:List UInt8).toArray⟩],[.string ⟨([85,78,73,79,78]:List UInt8).toArray⟩,.string ⟨([65,76,76]:List UInt8).toArray⟩,.string ⟨([79,82,68,69,82]:List UInt8).toArray⟩,.string ⟨([76,73,77,73,84]:List UInt8).toArray⟩,.string ⟨([65,83,67]:List UInt8).toArray⟩,.string ⟨([68,69,83,67]:List UInt8).toArray⟩,.string ⟨([65,83]:List UInt8).toArray⟩,.string ⟨([65,78,68]:List UInt8).toArray⟩,.string ⟨([79,82]:List UInt8).toArray⟩,.string ⟨([78,79,84]:List UInt8).toArray⟩,.string ⟨([73,83]:List UInt8).toArray⟩,.string ⟨([78,85,76,76]:List UInt8).toArray⟩,.string ⟨([84,82,85,69]:List UInt8).toArray⟩,.string ⟨([70,65,76,83,69]:List UInt8).toArray⟩,.string ⟨([67,79,85,78,84]:List UInt8).toArray⟩,.string ⟨([83,85,77]:List UInt8).toArray⟩,.string ⟨([77,73,78]:List UInt8).toArray⟩,.string ⟨([77,65,88]:List UInt8).toArray⟩],rfl,rfl,⟨[.string ⟨([85,78,73,79,78]:List UInt8).toArray⟩],[.string ⟨([65,76,76]:List UInt8).toArray⟩,.string ⟨([79,82,68,69,82]:List UInt8).toArray⟩,.string ⟨([76,73,77,73,84]:List UInt8).toArray⟩,.string ⟨([65,83,67]:List UInt8).toArray⟩,.string ⟨([68,69,83,67]:List UInt8).toArray⟩,.string ⟨([65,83]:List UInt8).toArray⟩,.string ⟨([65,78,68]:List UInt8).toArray⟩,.string ⟨([79,82]:List UInt8).toArray⟩,.string ⟨([78,79,84]:List UInt8).toArray⟩,.string ⟨([73,83]:List UInt8).toArray⟩,.string ⟨([78,85,76,76]:List UInt8).toArray⟩,.string ⟨([84,82,85,69]:List UInt8).toArray⟩,.string ⟨([70,65,76,83,69]:List UInt8).toArray⟩,.string ⟨([67,79,85,78,84]:List UInt8).toArray⟩,.string ⟨([83,85,77]:List UInt8).toArray⟩,.string ⟨([77,73,78]:List UInt8).toArray⟩,.string ⟨([77,65,88]:List UInt8).toArray⟩],rfl,rfl,⟨[.string ⟨([65,76,76]:List UInt8).toArray⟩],[.string ⟨([79,82,68,69,82]:List UInt8).toArray⟩,.string ⟨([76,73,77,73,84]:List UInt8).toArray⟩,.string ⟨([65,83,67]:List UInt8).toArray⟩,.string ⟨([68,69,83,67]:List UInt8).toArray⟩,.string ⟨([65,83]:List UInt8).toArray⟩,.string ⟨([65,78,68]:List UInt8).toArray⟩,.string ⟨([79,82]:List UInt8).toArray⟩,.string ⟨([78,79,84]:List UInt8).toArray⟩,.string ⟨([73,83]:List UInt8).toArray⟩,.string ⟨([78,85,76,76]:List UInt8).toArray⟩,.string ⟨([84,82,85,69]:List UInt8).toArray⟩,.string ⟨([70,65,76,83,69]:List UInt8).toArray⟩,.string ⟨([67,79,85,78,84]:List UInt8).toArray⟩,.string ⟨([83,85,77]:List UInt8).toArray⟩,.string ⟨([77,73,78]:List UInt8).toArray⟩,.string ⟨([77,65,88]:List UInt8).toArray⟩],rfl,rfl,⟨[.string ⟨([79,82,68,69,82]:List UInt8).toArray⟩],[.string ⟨([76,73,77,73,84]:List UInt8).toArray⟩,.string ⟨([65,83,67]:List UInt8).toArray⟩,.string ⟨([68,69,83,67]:List UInt8).toArray⟩,.string ⟨([65,83]:List UInt8).toArray⟩,.string ⟨([65,78,68]:List UInt8).toArray⟩,.string ⟨([79,82]:List UInt8).toArray⟩,.string ⟨([78,79,84]:List UInt8).toArray⟩,.string ⟨([73,83]:List UInt8).toArray⟩,.string ⟨([78,85,76,76]:List UInt8).toArray⟩,.string ⟨([84,82,85,69]:List UInt8).toArray⟩,.string ⟨([70,65,76,83,69]:List UInt8).toArray⟩,.string ⟨([67,79,85,78,84]:List UInt8).toArray⟩,.string ⟨([83,85,77]:List UInt8).toArray⟩,.string ⟨([77,73,78]:List UInt8).toArray⟩,.string ⟨([77,65,88]:List UInt8).toArray⟩],rfl,rfl,⟨[.string ⟨([76,73,77,73,84]:List UInt8).toArray⟩],[.string ⟨([65,83,67]:List UInt8).toArray⟩,.string ⟨([68,69,83,67]:List UInt8).toArray⟩,.string ⟨([65,83]:List UInt8).toArray⟩,.string ⟨([65,78,68]:List UInt8).toArray⟩,.string ⟨([79,82]:List UInt8).toArray⟩,.string ⟨([78,79,84]:List UInt8).toArray⟩,.string ⟨([73,83]:List UInt8).toArray⟩,.string ⟨([78,85,76,76]:List UInt8).toArray⟩,.string ⟨([84,82,85,69]:List UInt8).toArray⟩,.string ⟨([70,65,76,83,69]:List UInt8).toArray⟩,.string ⟨([67,79,85,78,84]:List UInt8).toArray⟩,.string ⟨([83,85,77]:List UInt8).toArray⟩,.string ⟨([77,73,78]:List UInt8).toArray⟩,.string ⟨([77,65,88]:List UInt8).toArray⟩],rfl,rfl,⟨[.string ⟨([65,83,67]:List UInt8).toArray⟩],[.string ⟨([68,69,83,67]:List UInt8).toArray⟩,.string ⟨([65,83]:List UInt8).toArray⟩,.string ⟨([65,78,68]:List UInt8).toArray⟩,.string ⟨([79,82]:List UInt8).toArray⟩,.string ⟨([78,79,84]:List UInt8).toArray⟩,.string ⟨([73,83]:List UInt8).toArray⟩,.string ⟨([78,85,76,76]:List UInt8).toArray⟩,.string ⟨([84,82,85,69]:List UInt8).toArray⟩,.string ⟨([70,65,76,83,69]:List UInt8).toArray⟩,.string ⟨([67,79,85,78,84]:List UInt8).toArray⟩,.string ⟨([83,85,77]:List UInt8).toArray⟩,.string ⟨([77,73,78]:List UInt8).toArray⟩,.string ⟨([77,65,88]:List UInt8).toArray⟩],rfl,rfl,⟨[.string ⟨([68,69,83,67]:List UInt8).toArray⟩],[.string ⟨([65,83]:List UInt8).toArray⟩,.string ⟨([65,78,68]:List UInt8).toArray⟩,.string ⟨([79,82]:List UInt8).toArray⟩,.string ⟨([78,79,84]:List UInt8).toArray⟩,.string ⟨([73,83]:List UInt8).toArray⟩,.string ⟨([78,85,76,76]:List UInt8).toArray⟩,.string ⟨([84,82,85,69]:List UInt8).toArray⟩,.string ⟨([70,65,76,83,69]:List UInt8).toArray⟩,.string ⟨([67,79,85,78,84]:List UInt8).toArray⟩,.string ⟨([83,85,77]:List UInt8).toArray⟩,.string ⟨([77,73,78]:List UInt8).toArray⟩,.string ⟨([77,65,88]:List UInt8).toArray⟩],rfl,rfl,⟨[.string ⟨([65,83]:List UInt8).toArray⟩],[.string ⟨([65,78,68]:List UInt8).toArray⟩,.string ⟨([79,82]:List UInt8).toArray⟩,.string ⟨([78,79,84]:List UInt8).toArray⟩,.string ⟨([73,83]:List UInt8).toArray⟩,.string ⟨([78,85,76,76]:List UInt8).toArray⟩,.string ⟨([84,82,85,69]:List UInt8).toArray⟩,.string ⟨([70,65,76,83,69]:List UInt8).toArray⟩,.string ⟨([67,79,85,78,84]:List UInt8).toArray⟩,.string ⟨([83,85,77]:List UInt8).toArray⟩,.string ⟨([77,73,78]:List UInt8).toArray⟩,.string ⟨([77,65,88]:List UInt8).toArray⟩],rfl,rfl,⟨[.string ⟨([65,78,68]:List UInt8).toArray⟩],[.string ⟨([79,82]:List UInt8).toArray⟩,.string ⟨([78,79,84]:List UInt8).toArray⟩,.string ⟨([73,83]:List UInt8).toArray⟩,.string ⟨([78,85,76,76]:List UInt8).toArray⟩,.string ⟨([84,82,85,69]:List UInt8).toArray⟩,.string ⟨([70,65,76,83,69]:List UInt8).toArray⟩,.string ⟨([67,79,85,78,84]:List UInt8).toArray⟩,.string ⟨([83,85,77]:List UInt8).toArray⟩,.string ⟨([77,73,78]:List UInt8).toArray⟩,.string ⟨([77,65,88]:List UInt8).toArray⟩],rfl,rfl,⟨[.string ⟨([79,82]:List UInt8).toArray⟩],[.string ⟨([78,79,84]:List UInt8).toArray⟩,.string ⟨([73,83]:List UInt8).toArray⟩,.string ⟨([78,85,76,76]:List UInt8).toArray⟩,.string ⟨([84,82,85,69]:List UInt8).toArray⟩,.string ⟨([70,65,76,83,69]:List UInt8).toArray⟩,.string ⟨([67,79,85,78,84]:List UInt8).toArray⟩,.string ⟨([83,85,77]:List UInt8).toArray⟩,.string ⟨([77,73,78]:List UInt8).toArray⟩,.string ⟨([77,65,88]:List UInt8).toArray⟩],rfl,rfl,⟨[.string ⟨([78,79,84]:List UInt8).toArray⟩],[.string ⟨([73,83]:List UInt8).toArray⟩,.string ⟨([78,85,76,76]:List UInt8).toArray⟩,.string ⟨([84,82,85,69]:List UInt8).toArray⟩,.string ⟨([70,65,76,83,69]:List UInt8).toArray⟩,.string ⟨([67,79,85,78,84]:List UInt8).toArray⟩,.string ⟨([83,85,77]:List UInt8).toArray⟩,.string ⟨([77,73,78]:List UInt8).toArray⟩,.string ⟨([77,65,88]:List UInt8).toArray⟩],rfl,rfl,⟨[.string ⟨([73,83]:List UInt8).toArray⟩],[.string ⟨([78,85,76,76]:List UInt8).toArray⟩,.string ⟨([84,82,85,69]:List UInt8).toArray⟩,.string ⟨([70,65,76,83,69]:List UInt8).toArray⟩,.string ⟨([67,79,85,78,84]:List UInt8).toArray⟩,.string ⟨([83,85,77]:List UInt8).toArray⟩,.string ⟨([77,73,78]:List UInt8).toArray⟩,.string ⟨([77,65,88]:List UInt8).toArray⟩],rfl,rfl,⟨[.string ⟨([78,85,76,76]:List UInt8).toArray⟩],[.string ⟨([84,82,85,69]:List UInt8).toArray⟩,.string ⟨([70,65,76,83,69]:List UInt8).toArray⟩,.string ⟨([67,79,85,78,84]:List UInt8).toArray⟩,.string ⟨([83,85,77]:List UInt8).toArray⟩,.string ⟨([77,73,78]:List UInt8).toArray⟩,.string ⟨([77,65,88]:List UInt8).toArray⟩],rfl,rfl,⟨[.string ⟨([84,82,85,69]:List UInt8).toArray⟩],[.string ⟨([70,65,76,83,69]:List UInt8).toArray⟩,.string ⟨([67,79,85,78,84]:List UInt8).toArray⟩,.string ⟨([83,85,77]:List UInt8).toArray⟩,.string ⟨([77,73,78]:List UInt8).toArray⟩,.string ⟨([77,65,88]:List UInt8).toArray⟩],rfl,rfl,⟨[.string ⟨([70,65,76,83,69]:List UInt8).toArray⟩],[.string ⟨([67,79,85,78,84]:List UInt8).toArray⟩,.string ⟨([83,85,77]:List UInt8).toArray⟩,.string ⟨([77,73,78]:List UInt8).toArray⟩,.string ⟨([77,65,88]:List UInt8).toArray⟩],rfl,rfl,⟨[.string ⟨([67,79,85,78,84]:List UInt8).toArray⟩],[.string ⟨([83,85,77]:List UInt8).toArray⟩,.string ⟨([77,73,78]:List UInt8).toArray⟩,.string ⟨([77,65,88]:List UInt8).toArray⟩],rfl,rfl,⟨[.string ⟨([83,85,77]:List UInt8).toArray⟩],[.string ⟨([77,73,78]:List UInt8).toArray⟩,.string ⟨([77,65,88]:List UInt8).toArray⟩],rfl,rfl,⟨[.string ⟨([77,73,78]:List UInt8).toArray⟩],[.string ⟨([77,65,88]:List UInt8).toArray⟩],rfl,rfl,⟨[.string ⟨([77,65,88]:List UInt8).toArray⟩],[],rfl,rfl,(rfl:_=[])⟩⟩⟩⟩⟩⟩⟩⟩⟩⟩⟩⟩⟩⟩⟩⟩⟩⟩⟩⟩⟩⟩⟩⟩⟩⟩⟩⟩⟩

end Go.Proofs.YthbdkceckjihgaaGreatDoor

