/- du of this claim: D. -/
import Derived.Test.YthbdkceckjihgaaGreatDoorBbV3
import Derived.Test.YthbdkceckjihgaaGreatDoorBbV4
set_option linter.all false
namespace Go.Proofs.YthbdkceckjihgaaGreatDoor
open Go

structure cd where
 Name:cS
 Kind:Int
 deriving DecidableEq,Inhabited
def cZ:Rp cd:=kp (ck rS (rI .i64)) (fun x=>(x.Name,x.Kind))
def lF:jn cZ 0 rS (fun x=>x.Name):=(cA bN)
def zn:eS cZ 0 rS (fun x y=>{x with Name:=y}):=bT cN (fun _ _=>rfl)
def wx:jn cZ 1 (rI .i64) (fun x=>x.Kind):=(aF bN rfl)
def zm:eS cZ 1 (rI .i64) (fun x y=>{x with Kind:=y}):=bT (aB aj rfl) (fun _ _=>rfl)
def oq: ∀S,cZ.rc S [.string ⟨#[]⟩,.int .i64 0] ((⟨[],(0:Int)⟩:cd)):=fun _=>⟨[.string ⟨#[]⟩],[.int .i64 0],rfl,rfl,rfl⟩
structure Jq where
 word:cS
 kind:Int
 deriving DecidableEq,Inhabited
def z8:Rp Jq:=kp (ck rS (rI .i64)) (fun x=>(x.word,x.kind))
def Ru:jn z8 0 rS (fun x=>x.word):=(cA bN)
def Rt:jn z8 1 (rI .i64) (fun x=>x.kind):=(aF bN rfl)
def UF: ∀S,z8.rc S [.string ⟨#[]⟩,.int .i64 0] ((⟨[],(0:Int)⟩:Jq)):=fun _=>⟨[.string ⟨#[]⟩],[.int .i64 0],rfl,rfl,rfl⟩
structure ce where
 Name:cS
 Columns:(List cd)
 Keys:(List Int)
 deriving DecidableEq,Inhabited
def cG:Rp ce:=kp (ck rS (ck (eO cZ) (eO (rI .i64)))) (fun x=>(x.Name,x.Columns,x.Keys))
def sR:jn cG 0 rS (fun x=>x.Name):=(cA bN)
def Gs:eS cG 0 rS (fun x y=>{x with Name:=y}):=bT cN (fun _ _=>rfl)
def fY:jn cG 1 (eO cZ) (fun x=>x.Columns):=(cA (aF bN rfl))
def BC:eS cG 1 (eO cZ) (fun x y=>{x with Columns:=y}):=bT (aB cN rfl) (fun _ _=>rfl)
def pn:jn cG 2 (eO (rI .i64)) (fun x=>x.Keys):=(aF (aF bN rfl) rfl)
def MY:eS cG 2 (eO (rI .i64)) (fun x y=>{x with Keys:=y}):=bT (aB (aB aj rfl) rfl) (fun _ _=>rfl)
def zd: ∀S,cG.rc S [.string ⟨#[]⟩,.slice none 0 0,.slice none 0 0] ((⟨[],[],[]⟩:ce)):=fun _=>⟨[.string ⟨#[]⟩],[.slice none 0 0,.slice none 0 0],rfl,rfl,⟨[.slice none 0 0],[.slice none 0 0],rfl,⟨none,0,rfl,gc _,jW _,.inl rfl⟩,⟨none,0,rfl,gc _,jW _,.inl rfl⟩⟩⟩
structure aR where
 Tables:(List ce)
 deriving DecidableEq,Inhabited
def bK:Rp aR:=kp (eO cG) (fun x=>(x.Tables))
def eK:jn bK 0 (eO cG) (fun x=>x.Tables):=bN
def JH:eS bK 0 (eO cG) (fun x y=>{x with Tables:=y}):=bT aj (fun _ _=>rfl)
def sH: ∀S,bK.rc S [.slice none 0 0] ((⟨[]⟩:aR)):=fun _=>⟨none,0,rfl,gc _,jW _,.inl rfl⟩
structure cJ where
 Kind:Int
 N:Int
 U:Int
 S:cS
 deriving DecidableEq,Inhabited
def ei:Rp cJ:=kp (ck (rI .i64) (ck (rI .i64) (ck (rI .u64) rS))) (fun x=>(x.Kind,x.N,x.U,x.S))
def pm:jn ei 0 (rI .i64) (fun x=>x.Kind):=(cA bN)
def BB:eS ei 0 (rI .i64) (fun x y=>{x with Kind:=y}):=bT cN (fun _ _=>rfl)
def pl:jn ei 1 (rI .i64) (fun x=>x.N):=(cA (aF bN rfl))
def Gr:eS ei 1 (rI .i64) (fun x y=>{x with N:=y}):=bT (aB cN rfl) (fun _ _=>rfl)
def yd:jn ei 2 (rI .u64) (fun x=>x.U):=(cA (aF (aF bN rfl) rfl))
def MX:eS ei 2 (rI .u64) (fun x y=>{x with U:=y}):=bT (aB (aB cN rfl) rfl) (fun _ _=>rfl)
def lc:jn ei 3 rS (fun x=>x.S):=(aF (aF (aF bN rfl) rfl) rfl)
def Gq:eS ei 3 rS (fun x y=>{x with S:=y}):=bT (aB (aB (aB aj rfl) rfl) rfl) (fun _ _=>rfl)
def od: ∀S,ei.rc S [.int .i64 0,.int .i64 0,.int .u64 0,.string ⟨#[]⟩] ((⟨(0:Int),(0:Int),(0:Int),[]⟩:cJ)):=fun _=>⟨[.int .i64 0],[.int .i64 0,.int .u64 0,.string ⟨#[]⟩],rfl,rfl,⟨[.int .i64 0],[.int .u64 0,.string ⟨#[]⟩],rfl,rfl,⟨[.int .u64 0],[.string ⟨#[]⟩],rfl,rfl,rfl⟩⟩⟩
structure dl where
 Tag:Int
 L:Int
 R:Int
 Value:cJ
 Table:cS
 Name:cS
 deriving DecidableEq,Inhabited
def dk:Rp dl:=kp (ck (rI .i64) (ck (rI .i64) (ck (rI .i64) (ck ei (ck rS rS))))) (fun x=>(x.Tag,x.L,x.R,x.Value,x.Table,x.Name))
def iA:jn dk 0 (rI .i64) (fun x=>x.Tag):=(cA bN)
def QP:eS dk 0 (rI .i64) (fun x y=>{x with Tag:=y}):=bT cN (fun _ _=>rfl)
def ri:jn dk 1 (rI .i64) (fun x=>x.L):=(cA (aF bN rfl))
def QO:eS dk 1 (rI .i64) (fun x y=>{x with L:=y}):=bT (aB cN rfl) (fun _ _=>rfl)
def sU:jn dk 2 (rI .i64) (fun x=>x.R):=(cA (aF (aF bN rfl) rfl))
def QN:eS dk 2 (rI .i64) (fun x y=>{x with R:=y}):=bT (aB (aB cN rfl) rfl) (fun _ _=>rfl)
def mq:jn dk 3 ei (fun x=>x.Value):=(cA (aF (aF (aF bN rfl) rfl) rfl))
def QM:eS dk 3 ei (fun x y=>{x with Value:=y}):=bT (aB (aB (aB cN rfl) rfl) rfl) (fun _ _=>rfl)
def pT:jn dk 7 rS (fun x=>x.Table):=(cA (aF (aF (aF (aF bN rfl) rfl) rfl) rfl))
def QL:eS dk 7 rS (fun x y=>{x with Table:=y}):=bT (aB (aB (aB (aB cN rfl) rfl) rfl) rfl) (fun _ _=>rfl)
def nj:jn dk 8 rS (fun x=>x.Name):=(aF (aF (aF (aF (aF bN rfl) rfl) rfl) rfl) rfl)
def IF:eS dk 8 rS (fun x y=>{x with Name:=y}):=bT (aB (aB (aB (aB (aB aj rfl) rfl) rfl) rfl) rfl) (fun _ _=>rfl)
def vY: ∀S,dk.rc S [.int .i64 0,.int .i64 0,.int .i64 0,.int .i64 0,.int .i64 0,.int .u64 0,.string ⟨#[]⟩,.string ⟨#[]⟩,.string ⟨#[]⟩] ((⟨(0:Int),(0:Int),(0:Int),(⟨(0:Int),(0:Int),(0:Int),[]⟩:cJ),[],[]⟩:dl)):=fun _=>⟨[.int .i64 0],[.int .i64 0,.int .i64 0,.int .i64 0,.int .i64 0,.int .u64 0,.string ⟨#[]⟩,.string ⟨#[]⟩,.string ⟨#[]⟩],rfl,rfl,⟨[.int .i64 0],[.int .i64 0,.int .i64 0,.int .i64 0,.int .u64 0,.string ⟨#[]⟩,.string ⟨#[]⟩,.string ⟨#[]⟩],rfl,rfl,⟨[.int .i64 0],[.int .i64 0,.int .i64 0,.int .u64 0,.string ⟨#[]⟩,.string ⟨#[]⟩,.string ⟨#[]⟩],rfl,rfl,⟨[.int .i64 0,.int .i64 0,.int .u64 0,.string ⟨#[]⟩],[.string ⟨#[]⟩,.string ⟨#[]⟩],rfl,od _,⟨[.string ⟨#[]⟩],[.string ⟨#[]⟩],rfl,rfl,rfl⟩⟩⟩⟩⟩
structure dj where
 Nodes:(List dl)
 deriving DecidableEq,Inhabited
def bI:Rp dj:=kp (eO dk) (fun x=>(x.Nodes))
def eN:jn bI 0 (eO dk) (fun x=>x.Nodes):=bN
def QK:eS bI 0 (eO dk) (fun x y=>{x with Nodes:=y}):=bT aj (fun _ _=>rfl)
def uI: ∀S,bI.rc S [.slice none 0 0] ((⟨[]⟩:dj)):=fun _=>⟨none,0,rfl,gc _,jW _,.inl rfl⟩
structure fQ where
 Tree:dj
 As:cS
 deriving DecidableEq,Inhabited
def d9:Rp fQ:=kp (ck bI rS) (fun x=>(x.Tree,x.As))
def lN:jn d9 0 bI (fun x=>x.Tree):=(cA bN)
def II:eS d9 0 bI (fun x y=>{x with Tree:=y}):=bT cN (fun _ _=>rfl)
def Ao:jn d9 1 rS (fun x=>x.As):=(aF bN rfl)
def th: ∀S,d9.rc S [.slice none 0 0,.string ⟨#[]⟩] ((⟨(⟨[]⟩:dj),[]⟩:fQ)):=fun _=>⟨[.slice none 0 0],[.string ⟨#[]⟩],rfl,uI _,rfl⟩
structure ef where
 Table:cS
 As:cS
 deriving DecidableEq,Inhabited
def bg:Rp ef:=kp (ck rS rS) (fun x=>(x.Table,x.As))
def rf:jn bg 0 rS (fun x=>x.Table):=(cA bN)
def K8:eS bg 0 rS (fun x y=>{x with Table:=y}):=bT cN (fun _ _=>rfl)
def re:jn bg 1 rS (fun x=>x.As):=(aF bN rfl)
def ve: ∀S,bg.rc S [.string ⟨#[]⟩,.string ⟨#[]⟩] ((⟨[],[]⟩:ef)):=fun _=>⟨[.string ⟨#[]⟩],[.string ⟨#[]⟩],rfl,rfl,rfl⟩
structure nJ where
 Left:Bool
 Source:ef
 On:dj
 deriving DecidableEq,Inhabited
def fU:Rp nJ:=kp (ck rB (ck bg bI)) (fun x=>(x.Left,x.Source,x.On))
def I7:jn fU 0 rB (fun x=>x.Left):=(cA bN)
def An:jn fU 1 bg (fun x=>x.Source):=(cA (aF bN rfl))
def xv:jn fU 3 bI (fun x=>x.On):=(aF (aF bN rfl) rfl)
def QQ:eS fU 3 bI (fun x y=>{x with On:=y}):=bT (aB (aB aj rfl) rfl) (fun _ _=>rfl)
def Cq: ∀S,fU.rc S [.bool false,.string ⟨#[]⟩,.string ⟨#[]⟩,.slice none 0 0] ((⟨false,(⟨[],[]⟩:ef),(⟨[]⟩:dj)⟩:nJ)):=fun _=>⟨[.bool false],[.string ⟨#[]⟩,.string ⟨#[]⟩,.slice none 0 0],rfl,rfl,⟨[.string ⟨#[]⟩,.string ⟨#[]⟩],[.slice none 0 0],rfl,ve _,uI _⟩⟩
structure km where
 Table:cS
 Name:cS
 deriving DecidableEq,Inhabited
def fI:Rp km:=kp (ck rS rS) (fun x=>(x.Table,x.Name))
def xu:jn fI 0 rS (fun x=>x.Table):=(cA bN)
def IH:eS fI 0 rS (fun x y=>{x with Table:=y}):=bT cN (fun _ _=>rfl)
def xr:jn fI 1 rS (fun x=>x.Name):=(aF bN rfl)
def IG:eS fI 1 rS (fun x y=>{x with Name:=y}):=bT (aB aj rfl) (fun _ _=>rfl)
def z6: ∀S,fI.rc S [.string ⟨#[]⟩,.string ⟨#[]⟩] ((⟨[],[]⟩:km)):=fun _=>⟨[.string ⟨#[]⟩],[.string ⟨#[]⟩],rfl,rfl,rfl⟩
structure aQ where
 Distinct:Bool
 Star:Bool
 Items:(List fQ)
 From:ef
 Joins:(List nJ)
 Where:dj
 Having:dj
 Group:(List km)
 deriving DecidableEq,Inhabited
def bh:Rp aQ:=kp (ck rB (ck rB (ck (eO d9) (ck bg (ck (eO fU) (ck bI (ck bI (eO fI)))))))) (fun x=>(x.Distinct,x.Star,x.Items,x.From,x.Joins,x.Where,x.Having,x.Group))
def EQ:jn bh 0 rB (fun x=>x.Distinct):=(cA bN)
def po:jn bh 1 rB (fun x=>x.Star):=(cA (aF bN rfl))
def jb:jn bh 2 (eO d9) (fun x=>x.Items):=(cA (aF (aF bN rfl) rfl))
def La:eS bh 2 (eO d9) (fun x y=>{x with Items:=y}):=bT (aB (aB cN rfl) rfl) (fun _ _=>rfl)
def ww:jn bh 3 bg (fun x=>x.From):=(cA (aF (aF (aF bN rfl) rfl) rfl))
def K9:eS bh 3 bg (fun x y=>{x with From:=y}):=bT (aB (aB (aB cN rfl) rfl) rfl) (fun _ _=>rfl)
def nH:jn bh 5 (eO fU) (fun x=>x.Joins):=(cA (aF (aF (aF (aF bN rfl) rfl) rfl) rfl))
def rh:jn bh 6 bI (fun x=>x.Where):=(cA (aF (aF (aF (aF (aF bN rfl) rfl) rfl) rfl) rfl))
def nG:jn bh 7 bI (fun x=>x.Having):=(cA (aF (aF (aF (aF (aF (aF bN rfl) rfl) rfl) rfl) rfl) rfl))
def kH:jn bh 8 (eO fI) (fun x=>x.Group):=(aF (aF (aF (aF (aF (aF (aF bN rfl) rfl) rfl) rfl) rfl) rfl) rfl)
def w8: ∀S,bh.rc S [.bool false,.bool false,.slice none 0 0,.string ⟨#[]⟩,.string ⟨#[]⟩,.slice none 0 0,.slice none 0 0,.slice none 0 0,.slice none 0 0] ((⟨false,false,[],(⟨[],[]⟩:ef),[],(⟨[]⟩:dj),(⟨[]⟩:dj),[]⟩:aQ)):=fun _=>⟨[.bool false],[.bool false,.slice none 0 0,.string ⟨#[]⟩,.string ⟨#[]⟩,.slice none 0 0,.slice none 0 0,.slice none 0 0,.slice none 0 0],rfl,rfl,⟨[.bool false],[.slice none 0 0,.string ⟨#[]⟩,.string ⟨#[]⟩,.slice none 0 0,.slice none 0 0,.slice none 0 0,.slice none 0 0],rfl,rfl,⟨[.slice none 0 0],[.string ⟨#[]⟩,.string ⟨#[]⟩,.slice none 0 0,.slice none 0 0,.slice none 0 0,.slice none 0 0],rfl,⟨none,0,rfl,gc _,jW _,.inl rfl⟩,⟨[.string ⟨#[]⟩,.string ⟨#[]⟩],[.slice none 0 0,.slice none 0 0,.slice none 0 0,.slice none 0 0],rfl,ve _,⟨[.slice none 0 0],[.slice none 0 0,.slice none 0 0,.slice none 0 0],rfl,⟨none,0,rfl,gc _,jW _,.inl rfl⟩,⟨[.slice none 0 0],[.slice none 0 0,.slice none 0 0],rfl,uI _,⟨[.slice none 0 0],[.slice none 0 0],rfl,uI _,⟨none,0,rfl,gc _,jW _,.inl rfl⟩⟩⟩⟩⟩⟩⟩⟩
structure mf where
 first:Int
 depth:Int
 deriving DecidableEq,Inhabited
def ii:Rp mf:=kp (ck (rI .i64) (rI .i64)) (fun x=>(x.first,x.depth))
def Hd:jn ii 0 (rI .i64) (fun x=>x.first):=(cA bN)
def Gp:eS ii 0 (rI .i64) (fun x y=>{x with first:=y}):=bT cN (fun _ _=>rfl)
def yc:jn ii 1 (rI .i64) (fun x=>x.depth):=(aF bN rfl)
def Gn:eS ii 1 (rI .i64) (fun x y=>{x with depth:=y}):=bT (aB aj rfl) (fun _ _=>rfl)
def KK: ∀S,ii.rc S [.int .i64 0,.int .i64 0] ((⟨(0:Int),(0:Int)⟩:mf)):=fun _=>⟨[.int .i64 0],[.int .i64 0],rfl,rfl,rfl⟩
structure tf where
 Name:cS
 Number:Int
 Desc:Bool
 deriving DecidableEq,Inhabited
def j0:Rp tf:=kp (ck rS (ck (rI .i64) rB)) (fun x=>(x.Name,x.Number,x.Desc))
def rQ:jn j0 0 rS (fun x=>x.Name):=(cA bN)
def pr:jn j0 1 (rI .i64) (fun x=>x.Number):=(cA (aF bN rfl))
def Sz:eS j0 1 (rI .i64) (fun x y=>{x with Number:=y}):=bT (aB cN rfl) (fun _ _=>rfl)
def L0:jn j0 2 rB (fun x=>x.Desc):=(aF (aF bN rfl) rfl)
def F2: ∀S,j0.rc S [.string ⟨#[]⟩,.int .i64 0,.bool false] ((⟨[],(0:Int),false⟩:tf)):=fun _=>⟨[.string ⟨#[]⟩],[.int .i64 0,.bool false],rfl,rfl,⟨[.int .i64 0],[.bool false],rfl,rfl,rfl⟩⟩
structure cu where
 Selects:(List aQ)
 Keys:(List tf)
 Limit:Int
 deriving DecidableEq,Inhabited
def cv:Rp cu:=kp (ck (eO bh) (ck (eO j0) (rI .i64))) (fun x=>(x.Selects,x.Keys,x.Limit))
def nU:jn cv 0 (eO bh) (fun x=>x.Selects):=(cA bN)
def Na:eS cv 0 (eO bh) (fun x y=>{x with Selects:=y}):=bT cN (fun _ _=>rfl)
def pp:jn cv 1 (eO j0) (fun x=>x.Keys):=(cA (aF bN rfl))
def M0:eS cv 1 (eO j0) (fun x y=>{x with Keys:=y}):=bT (aB cN rfl) (fun _ _=>rfl)
def sS:jn cv 2 (rI .i64) (fun x=>x.Limit):=(aF (aF bN rfl) rfl)
def MZ:eS cv 2 (rI .i64) (fun x y=>{x with Limit:=y}):=bT (aB (aB aj rfl) rfl) (fun _ _=>rfl)
def F1: ∀S,cv.rc S [.slice none 0 0,.slice none 0 0,.int .i64 0] ((⟨[],[],(0:Int)⟩:cu)):=fun _=>⟨[.slice none 0 0],[.slice none 0 0,.int .i64 0],rfl,⟨none,0,rfl,gc _,jW _,.inl rfl⟩,⟨[.slice none 0 0],[.int .i64 0],rfl,⟨none,0,rfl,gc _,jW _,.inl rfl⟩,rfl⟩⟩
structure aC where
 Tag:Int
 L:Int
 R:Int
 Col:Int
 Value:cJ
 deriving DecidableEq,Inhabited
def br:Rp aC:=kp (ck (rI .i64) (ck (rI .i64) (ck (rI .i64) (ck (rI .i64) ei)))) (fun x=>(x.Tag,x.L,x.R,x.Col,x.Value))
def gQ:jn br 0 (rI .i64) (fun x=>x.Tag):=(cA bN)
def kY:eS br 0 (rI .i64) (fun x y=>{x with Tag:=y}):=bT cN (fun _ _=>rfl)
def mQ:jn br 1 (rI .i64) (fun x=>x.L):=(cA (aF bN rfl))
def vq:eS br 1 (rI .i64) (fun x y=>{x with L:=y}):=bT (aB cN rfl) (fun _ _=>rfl)
def mb:jn br 2 (rI .i64) (fun x=>x.R):=(cA (aF (aF bN rfl) rfl))
def vp:eS br 2 (rI .i64) (fun x y=>{x with R:=y}):=bT (aB (aB cN rfl) rfl) (fun _ _=>rfl)
def jz:jn br 3 (rI .i64) (fun x=>x.Col):=(cA (aF (aF (aF bN rfl) rfl) rfl))
def sL:eS br 3 (rI .i64) (fun x y=>{x with Col:=y}):=bT (aB (aB (aB cN rfl) rfl) rfl) (fun _ _=>rfl)
def nV:jn br 4 ei (fun x=>x.Value):=(aF (aF (aF (aF bN rfl) rfl) rfl) rfl)
def Gt:eS br 4 ei (fun x y=>{x with Value:=y}):=bT (aB (aB (aB (aB aj rfl) rfl) rfl) rfl) (fun _ _=>rfl)
def iS: ∀S,br.rc S [.int .i64 0,.int .i64 0,.int .i64 0,.int .i64 0,.int .i64 0,.int .i64 0,.int .u64 0,.string ⟨#[]⟩] ((⟨(0:Int),(0:Int),(0:Int),(0:Int),(⟨(0:Int),(0:Int),(0:Int),[]⟩:cJ)⟩:aC)):=fun _=>⟨[.int .i64 0],[.int .i64 0,.int .i64 0,.int .i64 0,.int .i64 0,.int .i64 0,.int .u64 0,.string ⟨#[]⟩],rfl,rfl,⟨[.int .i64 0],[.int .i64 0,.int .i64 0,.int .i64 0,.int .i64 0,.int .u64 0,.string ⟨#[]⟩],rfl,rfl,⟨[.int .i64 0],[.int .i64 0,.int .i64 0,.int .i64 0,.int .u64 0,.string ⟨#[]⟩],rfl,rfl,⟨[.int .i64 0],[.int .i64 0,.int .i64 0,.int .u64 0,.string ⟨#[]⟩],rfl,rfl,od _⟩⟩⟩⟩
structure aW where
 Nodes:(List aC)
 deriving DecidableEq,Inhabited
def ac:Rp aW:=kp (eO br) (fun x=>(x.Nodes))
def gn:jn ac 0 (eO br) (fun x=>x.Nodes):=bN
def QR:eS ac 0 (eO br) (fun x y=>{x with Nodes:=y}):=bT aj (fun _ _=>rfl)
def cQ: ∀S,ac.rc S [.slice none 0 0] ((⟨[]⟩:aW)):=fun _=>⟨none,0,rfl,gc _,jW _,.inl rfl⟩
structure ew where
 Left:Bool
 On:aW
 deriving DecidableEq,Inhabited
def aw:Rp ew:=kp (ck rB ac) (fun x=>(x.Left,x.On))
def yg:jn aw 0 rB (fun x=>x.Left):=(cA bN)
def Gv:eS aw 0 rB (fun x y=>{x with Left:=y}):=bT cN (fun _ _=>rfl)
def yf:jn aw 1 ac (fun x=>x.On):=(aF bN rfl)
def Gu:eS aw 1 ac (fun x y=>{x with On:=y}):=bT (aB aj rfl) (fun _ _=>rfl)
def Cr: ∀S,aw.rc S [.bool false,.slice none 0 0] ((⟨false,(⟨[]⟩:aW)⟩:ew)):=fun _=>⟨[.bool false],[.slice none 0 0],rfl,rfl,cQ _⟩
structure f9 where
 Tag:Int
 Arg:aW
 deriving DecidableEq,Inhabited
def aN:Rp f9:=kp (ck (rI .i64) ac) (fun x=>(x.Tag,x.Arg))
def ll:jn aN 0 (rI .i64) (fun x=>x.Tag):=(cA bN)
def Le:eS aN 0 (rI .i64) (fun x y=>{x with Tag:=y}):=bT cN (fun _ _=>rfl)
def qy:jn aN 1 ac (fun x=>x.Arg):=(aF bN rfl)
def Ld:eS aN 1 ac (fun x y=>{x with Arg:=y}):=bT (aB aj rfl) (fun _ _=>rfl)
def Br: ∀S,aN.rc S [.int .i64 0,.slice none 0 0] ((⟨(0:Int),(⟨[]⟩:aW)⟩:f9)):=fun _=>⟨[.int .i64 0],[.slice none 0 0],rfl,rfl,cQ _⟩
structure aL where
 Tables:(List Int)
 Joins:(List ew)
 Where:aW
 Having:aW
 Grouped:Bool
 Distinct:Bool
 Keys:(List Int)
 Aggs:(List f9)
 Items:(List aW)
 deriving DecidableEq,Inhabited
def bm:Rp aL:=kp (ck (eO (rI .i64)) (ck (eO aw) (ck ac (ck ac (ck rB (ck rB (ck (eO (rI .i64)) (ck (eO aN) (eO ac))))))))) (fun x=>(x.Tables,x.Joins,x.Where,x.Having,x.Grouped,x.Distinct,x.Keys,x.Aggs,x.Items))
def pV:jn bm 0 (eO (rI .i64)) (fun x=>x.Tables):=(cA bN)
def CH:eS bm 0 (eO (rI .i64)) (fun x y=>{x with Tables:=y}):=bT cN (fun _ _=>rfl)
def lz:jn bm 1 (eO aw) (fun x=>x.Joins):=(cA (aF bN rfl))
def CF:eS bm 1 (eO aw) (fun x y=>{x with Joins:=y}):=bT (aB cN rfl) (fun _ _=>rfl)
def u0:jn bm 2 ac (fun x=>x.Where):=(cA (aF (aF bN rfl) rfl))
def CE:eS bm 2 ac (fun x y=>{x with Where:=y}):=bT (aB (aB cN rfl) rfl) (fun _ _=>rfl)
def uZ:jn bm 3 ac (fun x=>x.Having):=(cA (aF (aF (aF bN rfl) rfl) rfl))
def CD:eS bm 3 ac (fun x y=>{x with Having:=y}):=bT (aB (aB (aB cN rfl) rfl) rfl) (fun _ _=>rfl)
def iJ:jn bm 4 rB (fun x=>x.Grouped):=(cA (aF (aF (aF (aF bN rfl) rfl) rfl) rfl))
def CC:eS bm 4 rB (fun x y=>{x with Grouped:=y}):=bT (aB (aB (aB (aB cN rfl) rfl) rfl) rfl) (fun _ _=>rfl)
def uY:jn bm 5 rB (fun x=>x.Distinct):=(cA (aF (aF (aF (aF (aF bN rfl) rfl) rfl) rfl) rfl))
def CB:eS bm 5 rB (fun x y=>{x with Distinct:=y}):=bT (aB (aB (aB (aB (aB cN rfl) rfl) rfl) rfl) rfl) (fun _ _=>rfl)
def rR:jn bm 6 (eO (rI .i64)) (fun x=>x.Keys):=(cA (aF (aF (aF (aF (aF (aF bN rfl) rfl) rfl) rfl) rfl) rfl))
def CA:eS bm 6 (eO (rI .i64)) (fun x y=>{x with Keys:=y}):=bT (aB (aB (aB (aB (aB (aB cN rfl) rfl) rfl) rfl) rfl) rfl) (fun _ _=>rfl)
def ku:jn bm 7 (eO aN) (fun x=>x.Aggs):=(cA (aF (aF (aF (aF (aF (aF (aF bN rfl) rfl) rfl) rfl) rfl) rfl) rfl))
def Cz:eS bm 7 (eO aN) (fun x y=>{x with Aggs:=y}):=bT (aB (aB (aB (aB (aB (aB (aB cN rfl) rfl) rfl) rfl) rfl) rfl) rfl) (fun _ _=>rfl)
def pU:jn bm 8 (eO ac) (fun x=>x.Items):=(aF (aF (aF (aF (aF (aF (aF (aF bN rfl) rfl) rfl) rfl) rfl) rfl) rfl) rfl)
def uN:eS bm 8 (eO ac) (fun x y=>{x with Items:=y}):=bT (aB (aB (aB (aB (aB (aB (aB (aB aj rfl) rfl) rfl) rfl) rfl) rfl) rfl) rfl) (fun _ _=>rfl)
def xJ: ∀S,bm.rc S [.slice none 0 0,.slice none 0 0,.slice none 0 0,.slice none 0 0,.bool false,.bool false,.slice none 0 0,.slice none 0 0,.slice none 0 0] ((⟨[],[],(⟨[]⟩:aW),(⟨[]⟩:aW),false,false,[],[],[]⟩:aL)):=fun _=>⟨[.slice none 0 0],[.slice none 0 0,.slice none 0 0,.slice none 0 0,.bool false,.bool false,.slice none 0 0,.slice none 0 0,.slice none 0 0],rfl,⟨none,0,rfl,gc _,jW _,.inl rfl⟩,⟨[.slice none 0 0],[.slice none 0 0,.slice none 0 0,.bool false,.bool false,.slice none 0 0,.slice none 0 0,.slice none 0 0],rfl,⟨none,0,rfl,gc _,jW _,.inl rfl⟩,⟨[.slice none 0 0],[.slice none 0 0,.bool false,.bool false,.slice none 0 0,.slice none 0 0,.slice none 0 0],rfl,cQ _,⟨[.slice none 0 0],[.bool false,.bool false,.slice none 0 0,.slice none 0 0,.slice none 0 0],rfl,cQ _,⟨[.bool false],[.bool false,.slice none 0 0,.slice none 0 0,.slice none 0 0],rfl,rfl,⟨[.bool false],[.slice none 0 0,.slice none 0 0,.slice none 0 0],rfl,rfl,⟨[.slice none 0 0],[.slice none 0 0,.slice none 0 0],rfl,⟨none,0,rfl,gc _,jW _,.inl rfl⟩,⟨[.slice none 0 0],[.slice none 0 0],rfl,⟨none,0,rfl,gc _,jW _,.inl rfl⟩,⟨none,0,rfl,gc _,jW _,.inl rfl⟩⟩⟩⟩⟩⟩⟩⟩⟩
structure am where
 Catalog:aR
 from_:aQ
 out:aL
 called:(List (cS×Bool))
 alone:(List (cS×(List Int)))
 behind:(List ((cS×cS)×Int))
 kinds:(List Int)
 groups:(List Int)
 at_:Int
 deriving DecidableEq,Inhabited
def aU:Rp am:=kp (ck bK (ck bh (ck bm (ck (QW:Rp (List (cS×Bool))) (ck (QW:Rp (List (cS×(List Int)))) (ck (QW:Rp (List ((cS×cS)×Int))) (ck (eO (rI .i64)) (ck (eO (rI .i64)) (rI .i64))))))))) (fun x=>(x.Catalog,x.from_,x.out,x.called,x.alone,x.behind,x.kinds,x.groups,x.at_))
def BO:jn aU 0 bK (fun x=>x.Catalog):=(cA bN)
def jy:jn aU 1 bh (fun x=>x.from_):=(cA (aF bN rfl))
def iP:jn aU 10 bm (fun x=>x.out):=(cA (aF (aF bN rfl) rfl))
def mM:eS aU 10 bm (fun x y=>{x with out:=y}):=bT (aB (aB cN rfl) rfl) (fun _ _=>rfl)
def MW:eS aU 22 (eO (rI .i64)) (fun x y=>{x with kinds:=y}):=bT (aB (aB (aB (aB (aB (aB cN rfl) rfl) rfl) rfl) rfl) rfl) (fun _ _=>rfl)
def Gm:eS aU 23 (eO (rI .i64)) (fun x y=>{x with groups:=y}):=bT (aB (aB (aB (aB (aB (aB (aB cN rfl) rfl) rfl) rfl) rfl) rfl) rfl) (fun _ _=>rfl)
def Hc:jn aU 24 (rI .i64) (fun x=>x.at_):=(aF (aF (aF (aF (aF (aF (aF (aF bN rfl) rfl) rfl) rfl) rfl) rfl) rfl) rfl)
def sK:eS aU 24 (rI .i64) (fun x y=>{x with at_:=y}):=bT (aB (aB (aB (aB (aB (aB (aB (aB aj rfl) rfl) rfl) rfl) rfl) rfl) rfl) rfl) (fun _ _=>rfl)
structure vR where
 Col:Int
 Desc:Bool
 deriving DecidableEq,Inhabited
def gY:Rp vR:=kp (ck (rI .i64) rB) (fun x=>(x.Col,x.Desc))
def Te:jn gY 0 (rI .i64) (fun x=>x.Col):=(cA bN)
def Lc:eS gY 0 (rI .i64) (fun x y=>{x with Col:=y}):=bT cN (fun _ _=>rfl)
def Td:jn gY 1 rB (fun x=>x.Desc):=(aF bN rfl)
def Lb:eS gY 1 rB (fun x y=>{x with Desc:=y}):=bT (aB aj rfl) (fun _ _=>rfl)
def R8: ∀S,gY.rc S [.int .i64 0,.bool false] ((⟨(0:Int),false⟩:vR)):=fun _=>⟨[.int .i64 0],[.bool false],rfl,rfl,rfl⟩
structure bu where
 Selects:(List aL)
 Names:(List cS)
 Kinds:(List Int)
 Order:(List vR)
 Limit:Int
 deriving DecidableEq,Inhabited
def bQ:Rp bu:=kp (ck (eO bm) (ck (eO rS) (ck (eO (rI .i64)) (ck (eO gY) (rI .i64))))) (fun x=>(x.Selects,x.Names,x.Kinds,x.Order,x.Limit))
def pt:jn bQ 0 (eO bm) (fun x=>x.Selects):=(cA bN)
def nW:jn bQ 1 (eO rS) (fun x=>x.Names):=(cA (aF bN rfl))
def vF:jn bQ 2 (eO (rI .i64)) (fun x=>x.Kinds):=(cA (aF (aF bN rfl) rfl))
def qW:jn bQ 3 (eO gY) (fun x=>x.Order):=(cA (aF (aF (aF bN rfl) rfl) rfl))
def ye:jn bQ 4 (rI .i64) (fun x=>x.Limit):=(aF (aF (aF (aF bN rfl) rfl) rfl) rfl)
def lh: ∀S,bQ.rc S [.slice none 0 0,.slice none 0 0,.slice none 0 0,.slice none 0 0,.int .i64 0] ((⟨[],[],[],[],(0:Int)⟩:bu)):=fun _=>⟨[.slice none 0 0],[.slice none 0 0,.slice none 0 0,.slice none 0 0,.int .i64 0],rfl,⟨none,0,rfl,gc _,jW _,.inl rfl⟩,⟨[.slice none 0 0],[.slice none 0 0,.slice none 0 0,.int .i64 0],rfl,⟨none,0,rfl,gc _,jW _,.inl rfl⟩,⟨[.slice none 0 0],[.slice none 0 0,.int .i64 0],rfl,⟨none,0,rfl,gc _,jW _,.inl rfl⟩,⟨[.slice none 0 0],[.int .i64 0],rfl,⟨none,0,rfl,gc _,jW _,.inl rfl⟩,rfl⟩⟩⟩⟩
structure aA where
 c:aR
 sources:(List ef)
 out:aL
 deriving DecidableEq,Inhabited
def bA:Rp aA:=kp (ck bK (ck (eO bg) bm)) (fun x=>(x.c,x.sources,x.out))
def mH:jn bA 0 bK (fun x=>x.c):=(cA bN)
def K7:eS bA 0 bK (fun x y=>{x with c:=y}):=bT cN (fun _ _=>rfl)
def K6:eS bA 1 (eO bg) (fun x y=>{x with sources:=y}):=bT (aB cN rfl) (fun _ _=>rfl)
def fO:jn bA 2 bm (fun x=>x.out):=(aF (aF bN rfl) rfl)
def lC:eS bA 2 bm (fun x y=>{x with out:=y}):=bT (aB (aB aj rfl) rfl) (fun _ _=>rfl)
def Qr: ∀S,bA.rc S [.slice none 0 0,.slice none 0 0,.slice none 0 0,.slice none 0 0,.slice none 0 0,.slice none 0 0,.bool false,.bool false,.slice none 0 0,.slice none 0 0,.slice none 0 0] ((⟨(⟨[]⟩:aR),[],(⟨[],[],(⟨[]⟩:aW),(⟨[]⟩:aW),false,false,[],[],[]⟩:aL)⟩:aA)):=fun _=>⟨[.slice none 0 0],[.slice none 0 0,.slice none 0 0,.slice none 0 0,.slice none 0 0,.slice none 0 0,.bool false,.bool false,.slice none 0 0,.slice none 0 0,.slice none 0 0],rfl,sH _,⟨[.slice none 0 0],[.slice none 0 0,.slice none 0 0,.slice none 0 0,.slice none 0 0,.bool false,.bool false,.slice none 0 0,.slice none 0 0,.slice none 0 0],rfl,⟨none,0,rfl,gc _,jW _,.inl rfl⟩,xJ _⟩⟩
structure HI where
 Tables:Value
def js:Rp HI:=kp rV (fun x=>(x.Tables))
def rP:jn js 0 rV (fun x=>x.Tables):=bN
def Gj:eS js 0 rV (fun x y=>{x with Tables:=y}):=bT aj (fun _ _=>rfl)
def lx(y:aR)(v0:Value):HI:=⟨v0⟩
def Co: ∀S,js.rc S [.slice none 0 0] (lx ((⟨[]⟩:aR)) (J none 0 0)):=fun _=>⟨rfl,rfl⟩
structure Mt where
 Selects:Value
 Keys:(List tf)
 Limit:Int
def kc:Rp Mt:=kp (ck rV (ck (eO j0) (rI .i64))) (fun x=>(x.Selects,x.Keys,x.Limit))
def C5:jn kc 0 rV (fun x=>x.Selects):=(cA bN)
def JG:eS kc 1 (eO j0) (fun x y=>{x with Keys:=y}):=bT (aB cN rfl) (fun _ _=>rfl)
def lZ(y:cu)(v0:Value):Mt:=⟨v0,y.Keys,y.Limit⟩
structure Zo where
 Selects:Value
 Keys:Value
 Limit:Int
structure Do where
 Selects:Value
 Names:(List cS)
 Kinds:Value
 Order:Value
 Limit:Int
def cU:Rp Do:=kp (ck rV (ck (eO rS) (ck rV (ck rV (rI .i64))))) (fun x=>(x.Selects,x.Names,x.Kinds,x.Order,x.Limit))
def Ea:jn cU 0 rV (fun x=>x.Selects):=(cA bN)
def D9:jn cU 1 (eO rS) (fun x=>x.Names):=(cA (aF bN rfl))
def DM:eS cU 1 (eO rS) (fun x y=>{x with Names:=y}):=bT (aB cN rfl) (fun _ _=>rfl)
def D8:jn cU 2 rV (fun x=>x.Kinds):=(cA (aF (aF bN rfl) rfl))
def D7:jn cU 3 rV (fun x=>x.Order):=(cA (aF (aF (aF bN rfl) rfl) rfl))
def DL:eS cU 4 (rI .i64) (fun x y=>{x with Limit:=y}):=bT (aB (aB (aB (aB aj rfl) rfl) rfl) rfl) (fun _ _=>rfl)
def d5(y:bu)(v0:Value)(v2:Value)(v3:Value):Do:=⟨v0,y.Names,v2,v3,y.Limit⟩
def zc: ∀S,cU.rc S [.slice none 0 0,.slice none 0 0,.slice none 0 0,.slice none 0 0,.int .i64 0] (d5 ((⟨[],[],[],[],(0:Int)⟩:bu)) (J none 0 0) (J none 0 0) (J none 0 0)):=fun _=>⟨[.slice none 0 0],[.slice none 0 0,.slice none 0 0,.slice none 0 0,.int .i64 0],rfl,⟨rfl,rfl⟩,⟨[.slice none 0 0],[.slice none 0 0,.slice none 0 0,.int .i64 0],rfl,⟨none,0,rfl,gc _,jW _,.inl rfl⟩,⟨[.slice none 0 0],[.slice none 0 0,.int .i64 0],rfl,⟨rfl,rfl⟩,⟨[.slice none 0 0],[.int .i64 0],rfl,⟨rfl,rfl⟩,rfl⟩⟩⟩⟩
structure HJ where
 Selects:Value
 Names:(List cS)
 Kinds:(List Int)
 Order:Value
 Limit:Int
def dF:Rp HJ:=kp (ck rV (ck (eO rS) (ck (eO (rI .i64)) (ck rV (rI .i64))))) (fun x=>(x.Selects,x.Names,x.Kinds,x.Order,x.Limit))
def Hb:jn dF 0 rV (fun x=>x.Selects):=(cA bN)
def Ha:jn dF 1 (eO rS) (fun x=>x.Names):=(cA (aF bN rfl))
def Gl:eS dF 1 (eO rS) (fun x y=>{x with Names:=y}):=bT (aB cN rfl) (fun _ _=>rfl)
def G9:jn dF 2 (eO (rI .i64)) (fun x=>x.Kinds):=(cA (aF (aF bN rfl) rfl))
def zl:eS dF 2 (eO (rI .i64)) (fun x y=>{x with Kinds:=y}):=bT (aB (aB cN rfl) rfl) (fun _ _=>rfl)
def G8:jn dF 3 rV (fun x=>x.Order):=(cA (aF (aF (aF bN rfl) rfl) rfl))
def Gk:eS dF 4 (rI .i64) (fun x y=>{x with Limit:=y}):=bT (aB (aB (aB (aB aj rfl) rfl) rfl) rfl) (fun _ _=>rfl)
def fz(y:bu)(v0:Value)(v3:Value):HJ:=⟨v0,y.Names,y.Kinds,v3,y.Limit⟩
def Cp: ∀S,dF.rc S [.slice none 0 0,.slice none 0 0,.slice none 0 0,.slice none 0 0,.int .i64 0] (fz ((⟨[],[],[],[],(0:Int)⟩:bu)) (J none 0 0) (J none 0 0)):=fun _=>⟨[.slice none 0 0],[.slice none 0 0,.slice none 0 0,.slice none 0 0,.int .i64 0],rfl,⟨rfl,rfl⟩,⟨[.slice none 0 0],[.slice none 0 0,.slice none 0 0,.int .i64 0],rfl,⟨none,0,rfl,gc _,jW _,.inl rfl⟩,⟨[.slice none 0 0],[.slice none 0 0,.int .i64 0],rfl,⟨none,0,rfl,gc _,jW _,.inl rfl⟩,⟨[.slice none 0 0],[.int .i64 0],rfl,⟨rfl,rfl⟩,rfl⟩⟩⟩⟩
structure Qg where
 Nodes:Value
def mn:Rp Qg:=kp rV (fun x=>(x.Nodes))
def EP:jn mn 0 rV (fun x=>x.Nodes):=bN
def K5:eS mn 0 rV (fun x y=>{x with Nodes:=y}):=bT aj (fun _ _=>rfl)
def oz(y:dj)(v0:Value):Qg:=⟨v0⟩
def Iu: ∀S,mn.rc S [.slice none 0 0] (oz ((⟨[]⟩:dj)) (J none 0 0)):=fun _=>⟨rfl,rfl⟩
structure Jp where
 Distinct:Bool
 Star:Bool
 Items:Value
 From:ef
 Joins:(List nJ)
 Where:dj
 Having:dj
 Group:(List km)
def EJ:Rp Jp:=kp (ck rB (ck rB (ck rV (ck bg (ck (eO fU) (ck bI (ck bI (eO fI)))))))) (fun x=>(x.Distinct,x.Star,x.Items,x.From,x.Joins,x.Where,x.Having,x.Group))
def EN(y:aQ)(v2:Value):Jp:=⟨y.Distinct,y.Star,v2,y.From,y.Joins,y.Where,y.Having,y.Group⟩
structure EY where
 Distinct:Bool
 Star:Bool
 Items:Value
 From:ef
 Joins:Value
 Where:dj
 Having:dj
 Group:(List km)
def em:Rp EY:=kp (ck rB (ck rB (ck rV (ck bg (ck rV (ck bI (ck bI (eO fI)))))))) (fun x=>(x.Distinct,x.Star,x.Items,x.From,x.Joins,x.Where,x.Having,x.Group))
def yN:jn em 2 rV (fun x=>x.Items):=(cA (aF (aF bN rfl) rfl))
def yM:jn em 5 rV (fun x=>x.Joins):=(cA (aF (aF (aF (aF bN rfl) rfl) rfl) rfl))
def Fl:jn em 6 bI (fun x=>x.Where):=(cA (aF (aF (aF (aF (aF bN rfl) rfl) rfl) rfl) rfl))
def Fb:eS em 6 bI (fun x y=>{x with Where:=y}):=bT (aB (aB (aB (aB (aB cN rfl) rfl) rfl) rfl) rfl) (fun _ _=>rfl)
def Fk:jn em 7 bI (fun x=>x.Having):=(cA (aF (aF (aF (aF (aF (aF bN rfl) rfl) rfl) rfl) rfl) rfl))
def Fa:eS em 7 bI (fun x y=>{x with Having:=y}):=bT (aB (aB (aB (aB (aB (aB cN rfl) rfl) rfl) rfl) rfl) rfl) (fun _ _=>rfl)
def E9:eS em 8 (eO fI) (fun x y=>{x with Group:=y}):=bT (aB (aB (aB (aB (aB (aB (aB aj rfl) rfl) rfl) rfl) rfl) rfl) rfl) (fun _ _=>rfl)
def iF(y:aQ)(v2:Value)(v4:Value):EY:=⟨y.Distinct,y.Star,v2,y.From,v4,y.Where,y.Having,y.Group⟩
def HW: ∀S,em.rc S [.bool false,.bool false,.slice none 0 0,.string ⟨#[]⟩,.string ⟨#[]⟩,.slice none 0 0,.slice none 0 0,.slice none 0 0,.slice none 0 0] (iF ((⟨false,false,[],(⟨[],[]⟩:ef),[],(⟨[]⟩:dj),(⟨[]⟩:dj),[]⟩:aQ)) (J none 0 0) (J none 0 0)):=fun _=>⟨[.bool false],[.bool false,.slice none 0 0,.string ⟨#[]⟩,.string ⟨#[]⟩,.slice none 0 0,.slice none 0 0,.slice none 0 0,.slice none 0 0],rfl,rfl,⟨[.bool false],[.slice none 0 0,.string ⟨#[]⟩,.string ⟨#[]⟩,.slice none 0 0,.slice none 0 0,.slice none 0 0,.slice none 0 0],rfl,rfl,⟨[.slice none 0 0],[.string ⟨#[]⟩,.string ⟨#[]⟩,.slice none 0 0,.slice none 0 0,.slice none 0 0,.slice none 0 0],rfl,⟨rfl,rfl⟩,⟨[.string ⟨#[]⟩,.string ⟨#[]⟩],[.slice none 0 0,.slice none 0 0,.slice none 0 0,.slice none 0 0],rfl,ve _,⟨[.slice none 0 0],[.slice none 0 0,.slice none 0 0,.slice none 0 0],rfl,⟨rfl,rfl⟩,⟨[.slice none 0 0],[.slice none 0 0,.slice none 0 0],rfl,uI _,⟨[.slice none 0 0],[.slice none 0 0],rfl,uI _,⟨none,0,rfl,gc _,jW _,.inl rfl⟩⟩⟩⟩⟩⟩⟩⟩
structure Qh where
 Nodes:Value
def ot:Rp Qh:=kp rV (fun x=>(x.Nodes))
def t8:jn ot 0 rV (fun x=>x.Nodes):=bN
def pP(y:aW)(v0:Value):Qh:=⟨v0⟩
def Qq: ∀S,ot.rc S [.slice none 0 0] (pP ((⟨[]⟩:aW)) (J none 0 0)):=fun _=>⟨rfl,rfl⟩
structure Dn where
 Catalog:aR
 from_:aQ
 out:aL
 called:Value
 alone:Value
 behind:Value
 kinds:(List Int)
 groups:(List Int)
 at_:Int
def gh:Rp Dn:=kp (ck bK (ck bh (ck bm (ck rV (ck rV (ck rV (ck (eO (rI .i64)) (ck (eO (rI .i64)) (rI .i64))))))))) (fun x=>(x.Catalog,x.from_,x.out,x.called,x.alone,x.behind,x.kinds,x.groups,x.at_))
def DK:eS gh 0 bK (fun x y=>{x with Catalog:=y}):=bT cN (fun _ _=>rfl)
def DI:eS gh 1 bh (fun x y=>{x with from_:=y}):=bT (aB cN rfl) (fun _ _=>rfl)
def D6:jn gh 19 rV (fun x=>x.called):=(cA (aF (aF (aF bN rfl) rfl) rfl))
def DH:eS gh 19 rV (fun x y=>{x with called:=y}):=bT (aB (aB (aB cN rfl) rfl) rfl) (fun _ _=>rfl)
def D5:jn gh 20 rV (fun x=>x.alone):=(cA (aF (aF (aF (aF bN rfl) rfl) rfl) rfl))
def DG:eS gh 20 rV (fun x y=>{x with alone:=y}):=bT (aB (aB (aB (aB cN rfl) rfl) rfl) rfl) (fun _ _=>rfl)
def D4:jn gh 21 rV (fun x=>x.behind):=(cA (aF (aF (aF (aF (aF bN rfl) rfl) rfl) rfl) rfl))
def DF:eS gh 21 rV (fun x y=>{x with behind:=y}):=bT (aB (aB (aB (aB (aB cN rfl) rfl) rfl) rfl) rfl) (fun _ _=>rfl)
def rO(y:am)(v3:Value)(v4:Value)(v5:Value):Dn:=⟨y.Catalog,y.from_,y.out,v3,v4,v5,y.kinds,y.groups,y.at_⟩
def F0: ∀S,gh.rc S [.slice none 0 0,.bool false,.bool false,.slice none 0 0,.string ⟨#[]⟩,.string ⟨#[]⟩,.slice none 0 0,.slice none 0 0,.slice none 0 0,.slice none 0 0,.slice none 0 0,.slice none 0 0,.slice none 0 0,.slice none 0 0,.bool false,.bool false,.slice none 0 0,.slice none 0 0,.slice none 0 0,.map none,.map none,.map none,.slice none 0 0,.slice none 0 0,.int .i64 0] (rO ((⟨(⟨[]⟩:aR),(⟨false,false,[],(⟨[],[]⟩:ef),[],(⟨[]⟩:dj),(⟨[]⟩:dj),[]⟩:aQ),(⟨[],[],(⟨[]⟩:aW),(⟨[]⟩:aW),false,false,[],[],[]⟩:aL),[],[],[],[],[],(0:Int)⟩:am)) (.map none) (.map none) (.map none)):=fun _=>⟨[.slice none 0 0],[.bool false,.bool false,.slice none 0 0,.string ⟨#[]⟩,.string ⟨#[]⟩,.slice none 0 0,.slice none 0 0,.slice none 0 0,.slice none 0 0,.slice none 0 0,.slice none 0 0,.slice none 0 0,.slice none 0 0,.bool false,.bool false,.slice none 0 0,.slice none 0 0,.slice none 0 0,.map none,.map none,.map none,.slice none 0 0,.slice none 0 0,.int .i64 0],rfl,sH _,⟨[.bool false,.bool false,.slice none 0 0,.string ⟨#[]⟩,.string ⟨#[]⟩,.slice none 0 0,.slice none 0 0,.slice none 0 0,.slice none 0 0],[.slice none 0 0,.slice none 0 0,.slice none 0 0,.slice none 0 0,.bool false,.bool false,.slice none 0 0,.slice none 0 0,.slice none 0 0,.map none,.map none,.map none,.slice none 0 0,.slice none 0 0,.int .i64 0],rfl,w8 _,⟨[.slice none 0 0,.slice none 0 0,.slice none 0 0,.slice none 0 0,.bool false,.bool false,.slice none 0 0,.slice none 0 0,.slice none 0 0],[.map none,.map none,.map none,.slice none 0 0,.slice none 0 0,.int .i64 0],rfl,xJ _,⟨[.map none],[.map none,.map none,.slice none 0 0,.slice none 0 0,.int .i64 0],rfl,⟨rfl,rfl⟩,⟨[.map none],[.map none,.slice none 0 0,.slice none 0 0,.int .i64 0],rfl,⟨rfl,rfl⟩,⟨[.map none],[.slice none 0 0,.slice none 0 0,.int .i64 0],rfl,⟨rfl,rfl⟩,⟨[.slice none 0 0],[.slice none 0 0,.int .i64 0],rfl,⟨none,0,rfl,gc _,jW _,.inl rfl⟩,⟨[.slice none 0 0],[.int .i64 0],rfl,⟨none,0,rfl,gc _,jW _,.inl rfl⟩,rfl⟩⟩⟩⟩⟩⟩⟩⟩
def Dc{S:SH}{cs:List Value}{y:aR}{v0:Value}{xs0:(List ce)}(k0:(eO cG).rc S [v0] xs0)(h:js.rc S cs (lx y v0)):bK.rc S cs ((⟨xs0⟩:aR)):=by
 have h0:=h
 exact(by rw [h0.1];exact k0)
def Fn{S:SH}{cs:List Value}{y:cu}{v0:Value}{xs0:(List aQ)}(k0:(eO bh).rc S [v0] xs0)(h:kc.rc S cs (lZ y v0)):cv.rc S cs ((⟨xs0,y.Keys,y.Limit⟩:cu)):=by
 obtain⟨a0,b0,e0,h0,a1,b1,e1,V,Z⟩:=h
 exact⟨a0,b0,e0,(by rw [h0.1];exact k0),a1,b1,e1,V,Z⟩
def AP{S:SH}{cs:List Value}{y:bu}{v0:Value}{v2:Value}{v3:Value}{xs0:(List aL)}(k0:(eO bm).rc S [v0] xs0){xs2:(List Int)}(k2:(eO (rI .i64)).rc S [v2] xs2){xs3:(List vR)}(k3:(eO gY).rc S [v3] xs3)(h:cU.rc S cs (d5 y v0 v2 v3)):bQ.rc S cs ((⟨xs0,y.Names,xs2,xs3,y.Limit⟩:bu)):=by
 obtain⟨a0,b0,e0,h0,a1,b1,e1,V,a2,b2,e2,Z,a3,b3,e3,h3,h4⟩:=h
 exact⟨a0,b0,e0,(by rw [h0.1];exact k0),a1,b1,e1,V,a2,b2,e2,(by rw [Z.1];exact k2),a3,b3,e3,(by rw [h3.1];exact k3),h4⟩
def Dd{S:SH}{cs:List Value}{y:bu}{v0:Value}{v3:Value}{xs0:(List aL)}(k0:(eO bm).rc S [v0] xs0){xs3:(List vR)}(k3:(eO gY).rc S [v3] xs3)(h:dF.rc S cs (fz y v0 v3)):bQ.rc S cs ((⟨xs0,y.Names,y.Kinds,xs3,y.Limit⟩:bu)):=by
 obtain⟨a0,b0,e0,h0,a1,b1,e1,V,a2,b2,e2,Z,a3,b3,e3,h3,h4⟩:=h
 exact⟨a0,b0,e0,(by rw [h0.1];exact k0),a1,b1,e1,V,a2,b2,e2,Z,a3,b3,e3,(by rw [h3.1];exact k3),h4⟩
def Hn{S:SH}{cs:List Value}{y:dj}{v0:Value}{xs0:(List dl)}(k0:(eO dk).rc S [v0] xs0)(h:mn.rc S cs (oz y v0)):bI.rc S cs ((⟨xs0⟩:dj)):=by
 have h0:=h
 exact(by rw [h0.1];exact k0)
def BT{S:SH}{cs:List Value}{y:aQ}{v2:Value}{v4:Value}{xs2:(List fQ)}(k2:(eO d9).rc S [v2] xs2){xs4:(List nJ)}(k4:(eO fU).rc S [v4] xs4)(h:em.rc S cs (iF y v2 v4)):bh.rc S cs ((⟨y.Distinct,y.Star,xs2,y.From,xs4,y.Where,y.Having,y.Group⟩:aQ)):=by
 obtain⟨a0,b0,e0,h0,a1,b1,e1,V,a2,b2,e2,Z,a3,b3,e3,h3,a4,b4,e4,h4,a5,b5,e5,h5,a6,b6,e6,h6,h7⟩:=h
 exact⟨a0,b0,e0,h0,a1,b1,e1,V,a2,b2,e2,(by rw [Z.1];exact k2),a3,b3,e3,h3,a4,b4,e4,(by rw [h4.1];exact k4),a5,b5,e5,h5,a6,b6,e6,h6,h7⟩
def Ho{S:SH}{cs:List Value}{y:aW}{v0:Value}{xs0:(List aC)}(k0:(eO br).rc S [v0] xs0)(h:ot.rc S cs (pP y v0)):ac.rc S cs ((⟨xs0⟩:aW)):=by
 have h0:=h
 exact(by rw [h0.1];exact k0)
def AO{S:SH}{cs:List Value}{y:am}{v3:Value}{v4:Value}{v5:Value}{xs3:(List (cS×Bool))}(k3:(QW:Rp (List (cS×Bool))).rc S [v3] xs3){xs4:(List (cS×(List Int)))}(k4:(QW:Rp (List (cS×(List Int)))).rc S [v4] xs4){xs5:(List ((cS×cS)×Int))}(k5:(QW:Rp (List ((cS×cS)×Int))).rc S [v5] xs5)(h:gh.rc S cs (rO y v3 v4 v5)):aU.rc S cs ((⟨y.Catalog,y.from_,y.out,xs3,xs4,xs5,y.kinds,y.groups,y.at_⟩:am)):=by
 obtain⟨a0,b0,e0,h0,a1,b1,e1,V,a2,b2,e2,Z,a3,b3,e3,h3,a4,b4,e4,h4,a5,b5,e5,h5,a6,b6,e6,h6,a7,b7,e7,h7,h8⟩:=h
 exact⟨a0,b0,e0,h0,a1,b1,e1,V,a2,b2,e2,Z,a3,b3,e3,(by rw [h3.1];exact k3),a4,b4,e4,(by rw [h4.1];exact k4),a5,b5,e5,(by rw [h5.1];exact k5),a6,b6,e6,h6,a7,b7,e7,h7,h8⟩
def By(y:cu)(v:Value):rj cv kc 0 rV (y) v (lZ y v):=uM (v8 (gk rfl) rfl) rfl
def ut(y:bu)(v2:Value)(v3:Value)(u:Value)(v:Value):rj cU cU 0 rV (d5 y u v2 v3) v (d5 y v v2 v3):=uM (v8 (gk rfl) rfl) rfl
def ur(y:bu)(v0:Value)(v3:Value)(u:Value)(v:Value):rj cU cU 2 rV (d5 y v0 u v3) v (d5 y v0 v v3):=uM (oM (oM (v8 (gk rfl) rfl) rfl) rfl) rfl
def uq(y:bu)(v0:Value)(v2:Value)(u:Value)(v:Value):rj cU cU 3 rV (d5 y v0 v2 u) v (d5 y v0 v2 v):=uM (oM (oM (oM (v8 (gk rfl) rfl) rfl) rfl) rfl) rfl
def wO(y:bu)(v3:Value)(u:Value)(v:Value):rj dF dF 0 rV (fz y u v3) v (fz y v v3):=uM (v8 (gk rfl) rfl) rfl
def wN(y:bu)(v0:Value)(u:Value)(v:Value):rj dF dF 3 rV (fz y v0 u) v (fz y v0 v):=uM (oM (oM (oM (v8 (gk rfl) rfl) rfl) rfl) rfl) rfl
def AM(y:aQ)(v:Value):rj bh EJ 2 rV (y) v (EN y v):=uM (oM (oM (v8 (gk rfl) rfl) rfl) rfl) rfl
def xd(y:aQ)(v2:Value)(v:Value):rj EJ em 5 rV (EN y v2) v (iF y v2 v):=uM (oM (oM (oM (oM (v8 (gk rfl) rfl) rfl) rfl) rfl) rfl) rfl
def uD(y:aW)(u:Value)(v:Value):rj ot ot 0 rV (pP y u) v (pP y v):=uM (gk rfl) rfl
def dx(b:Nat)(x:am)(i:OI):List OE:=[bx (rH aU [(10,J (i.h 0).1 (i.h 0).2 x.out.Tables.length),(11,J (i.h 1).1 (i.h 1).2 x.out.Joins.length),(16,J (i.h 2).1 (i.h 2).2 x.out.Keys.length),(17,J (i.h 3).1 (i.h 3).2 x.out.Aggs.length),(18,J (i.h 4).1 (i.h 4).2 x.out.Items.length),(22,J (i.h 5).1 (i.h 5).2 x.kinds.length),(23,J (i.h 6).1 (i.h 6).2 x.groups.length),(19,aG (i.h 7).2),(20,aG (i.h 8).2),(21,aG (i.h 9).2)]) 127 b x,K (rI .i64) 3 (i.h 0).1 (i.h 0).2 x.out.Tables,K aw 71 (i.h 1).1 (i.h 1).2 x.out.Joins,K (rI .i64) 3 (i.h 2).1 (i.h 2).2 x.out.Keys,K aN 73 (i.h 3).1 (i.h 3).2 x.out.Aggs,K ac 62 (i.h 4).1 (i.h 4).2 x.out.Items,K (rI .i64) 3 (i.h 5).1 (i.h 5).2 x.kinds,K (rI .i64) 3 (i.h 6).1 (i.h 6).2 x.groups,ci (JQ (fun y:Bool=>H rB y)) ez (i.h 7).2 none (i.oss 0) x.called,ci (Xa (rI .i64) 3) ez (i.h 8).2 none (i.oss 1) x.alone,eQ (fun y:Int=>H (rI .i64) y) lg (i.h 9).2 x.behind]
def kE(b:Nat)(x:aA)(i:OI):List OE:=[bx (rH bA [(1,J (i.h 0).1 (i.h 0).2 x.sources.length),(2,J (i.h 1).1 (i.h 1).2 x.out.Tables.length),(3,J (i.h 2).1 (i.h 2).2 x.out.Joins.length),(8,J (i.h 3).1 (i.h 3).2 x.out.Keys.length),(9,J (i.h 4).1 (i.h 4).2 x.out.Aggs.length),(10,J (i.h 5).1 (i.h 5).2 x.out.Items.length)]) 137 b x,K bg 48 (i.h 0).1 (i.h 0).2 x.sources,K (rI .i64) 3 (i.h 1).1 (i.h 1).2 x.out.Tables,K aw 71 (i.h 2).1 (i.h 2).2 x.out.Joins,K (rI .i64) 3 (i.h 3).1 (i.h 3).2 x.out.Keys,K aN 73 (i.h 4).1 (i.h 4).2 x.out.Aggs,K ac 62 (i.h 5).1 (i.h 5).2 x.out.Items]
def Z0{tD:HL}{y:am}{v3 v4 v5:Value}{S:SH}{u:Value}(h:(H (rH gh tD) (rO y v3 v4 v5)).p S u)(k3:v3.oneCell' =true)(k4:v4.oneCell' =true)(k5:v5.oneCell' =true):(H (rH aU (tD++[(19,v3),(20,v4),(21,v5)])) (⟨y.Catalog,y.from_,y.out,[],[],[],y.kinds,y.groups,y.at_⟩:am)).p S u:=by
 obtain⟨cs,e,V,Z⟩:=h
 refine⟨cs,e,AO ⟨_,rfl,k3⟩ ⟨_,rfl,k4⟩ ⟨_,rfl,k5⟩ V,fun p hp=>?_⟩
 rcases Bj.1 hp with hp|hp
 ·exact Z p hp
 ·simp only [gw,List.not_mem_nil,or_false]at hp
  rcases hp with rfl|rfl|rfl
  ·have h3:=Tc D6 V
   exact h3
  ·have h3:=Tc D5 V
   exact h3
  ·have h3:=Tc D4 V
   exact h3
def Yj:(List Jq):=[(⟨[98,111,111,108],(1:Int)⟩:Jq),(⟨[105,110,116],(2:Int)⟩:Jq),(⟨[116,101,120,116],(3:Int)⟩:Jq)]
def gm0:((0:Nat),([.string ⟨([98,111,111,108]:List UInt8).toArray⟩,.int .i64 (1),.string ⟨([105,110,116]:List UInt8).toArray⟩,.int .i64 (2),.string ⟨([116,101,120,116]:List UInt8).toArray⟩,.int .i64 (3)]:List Value))∈glob:=by simp [glob]
def gr0: ∀S,(qr z8 3).rc S ([.string ⟨([98,111,111,108]:List UInt8).toArray⟩,.int .i64 (1),.string ⟨([105,110,116]:List UInt8).toArray⟩,.int .i64 (2),.string ⟨([116,101,120,116]:List UInt8).toArray⟩,.int .i64 (3)]:List Value) Yj:=fun _=>⟨rfl,⟨[.string ⟨([98,111,111,108]:List UInt8).toArray⟩,.int .i64 (1)],[.string ⟨([105,110,116]:List UInt8).toArray⟩,.int .i64 (2),.string ⟨([116,101,120,116]:List UInt8).toArray⟩,.int .i64 (3)],rfl,⟨[.string ⟨([98,111,111,108]:List UInt8).toArray⟩],[.int .i64 (1)],rfl,rfl,rfl⟩,⟨[.string ⟨([105,110,116]:List UInt8).toArray⟩,.int .i64 (2)],[.string ⟨([116,101,120,116]:List UInt8).toArray⟩,.int .i64 (3)],rfl,⟨[.string ⟨([105,110,116]:List UInt8).toArray⟩],[.int .i64 (2)],rfl,rfl,rfl⟩,⟨[.string ⟨([116,101,120,116]:List UInt8).toArray⟩,.int .i64 (3)],[],rfl,⟨[.string ⟨([116,101,120,116]:List UInt8).toArray⟩],[.int .i64 (3)],rfl,rfl,rfl⟩,(rfl:_=[])⟩⟩⟩⟩
def Yi:(List cS):=[[83,69,76,69,67,84],[68,73,83,84,73,78,67,84],[70,82,79,77],[76,69,70,84],[74,79,73,78],[79,78],[87,72,69,82,69],[71,82,79,85,80],[66,89],[72,65,86,73,78,71],[85,78,73,79,78],[65,76,76],[79,82,68,69,82],[76,73,77,73,84],[65,83,67],[68,69,83,67],[65,83],[65,78,68],[79,82],[78,79,84],[73,83],[78,85,76,76],[84,82,85,69],[70,65,76,83,69],[67,79,85,78,84],[83,85,77],[77,73,78],[77,65,88]]
def gm1:((1:Nat),([.string ⟨([83,69,76,69,67,84]:List UInt8).toArray⟩,.string ⟨([68,73,83,84,73,78,67,84]:List UInt8).toArray⟩,.string ⟨([70,82,79,77]:List UInt8).toArray⟩,.string ⟨([76,69,70,84]:List UInt8).toArray⟩,.string ⟨([74,79,73,78]:List UInt8).toArray⟩,.string ⟨([79,78]:List UInt8).toArray⟩,.string ⟨([87,72,69,82,69]:List UInt8).toArray⟩,.string ⟨([71,82,79,85,80]:List UInt8).toArray⟩,.string ⟨([66,89]:List UInt8).toArray⟩,.string ⟨([72,65,86,73,78,71]:List UInt8).toArray⟩,.string ⟨([85,78,73,79,78]:List UInt8).toArray⟩,.string ⟨([65,76,76]:List UInt8).toArray⟩,.string ⟨([79,82,68,69,82]:List UInt8).toArray⟩,.string ⟨([76,73,77,73,84]:List UInt8).toArray⟩,.string ⟨([65,83,67]:List UInt8).toArray⟩,.string ⟨([68,69,83,67]:List UInt8).toArray⟩,.string ⟨([65,83]:List UInt8).toArray⟩,.string ⟨([65,78,68]:List UInt8).toArray⟩,.string ⟨([79,82]:List UInt8).toArray⟩,.string ⟨([78,79,84]:List UInt8).toArray⟩,.string ⟨([73,83]:List UInt8).toArray⟩,.string ⟨([78,85,76,76]:List UInt8).toArray⟩,.string ⟨([84,82,85,69]:List UInt8).toArray⟩,.string ⟨([70,65,76,83,69]:List UInt8).toArray⟩,.string ⟨([67,79,85,78,84]:List UInt8).toArray⟩,.string ⟨([83,85,77]:List UInt8).toArray⟩,.string ⟨([77,73,78]:List UInt8).toArray⟩,.string ⟨([77,65,88]:List UInt8).toArray⟩]:List Value))∈glob:=by simp [glob]
def gr1: ∀S,(qr rS 28).rc S ([.string ⟨([83,69,76,69,67,84]:List UInt8).toArray⟩,.string ⟨([68,73,83,84,73,78,67,84]:List UInt8).toArray⟩,.string ⟨([70,82,79,77]:List UInt8).toArray⟩,.string ⟨([76,69,70,84]:List UInt8).toArray⟩,.string ⟨([74,79,73,78]:List UInt8).toArray⟩,.string ⟨([79,78]:List UInt8).toArray⟩,.string ⟨([87,72,69,82,69]:List UInt8).toArray⟩,.string ⟨([71,82,79,85,80]:List UInt8).toArray⟩,.string ⟨([66,89]:List UInt8).toArray⟩,.string ⟨([72,65,86,73,78,71]:List UInt8).toArray⟩,.string ⟨([85,78,73,79,78]:List UInt8).toArray⟩,.string ⟨([65,76,76]:List UInt8).toArray⟩,.string ⟨([79,82,68,69,82]:List UInt8).toArray⟩,.string ⟨([76,73,77,73,84]:List UInt8).toArray⟩,.string ⟨([65,83,67]:List UInt8).toArray⟩,.string ⟨([68,69,83,67]:List UInt8).toArray⟩,.string ⟨([65,83]:List UInt8).toArray⟩,.string ⟨([65,78,68]:List UInt8).toArray⟩,.string ⟨([79,82]:List UInt8).toArray⟩,.string ⟨([78,79,84]:List UInt8).toArray⟩,.string ⟨([73,83]:List UInt8).toArray⟩,.string ⟨([78,85,76,76]:List UInt8).toArray⟩,.string ⟨([84,82,85,69]:List UInt8).toArray⟩,.string ⟨([70,65,76,83,69]:List UInt8).toArray⟩,.string ⟨([67,79,85,78,84]:List UInt8).toArray⟩,.string ⟨([83,85,77]:List UInt8).toArray⟩,.string ⟨([77,73,78]:List UInt8).toArray⟩,.string ⟨([77,65,88]:List UInt8).toArray⟩]:List Value) Yi:=fun _=>⟨rfl,⟨[.string ⟨([83,69,76,69,67,84]:List UInt8).toArray⟩],[.string ⟨([68,73,83,84,73,78,67,84]:List UInt8).toArray⟩,.string ⟨([70,82,79,77]:List UInt8).toArray⟩,.string ⟨([76,69,70,84]:List UInt8).toArray⟩,.string ⟨([74,79,73,78]:List UInt8).toArray⟩,.string ⟨([79,78]:List UInt8).toArray⟩,.string ⟨([87,72,69,82,69]:List UInt8).toArray⟩,.string ⟨([71,82,79,85,80]:List UInt8).toArray⟩,.string ⟨([66,89]:List UInt8).toArray⟩,.string ⟨([72,65,86,73,78,71]:List UInt8).toArray⟩,.string ⟨([85,78,73,79,78]:List UInt8).toArray⟩,.string ⟨([65,76,76]:List UInt8).toArray⟩,.string ⟨([79,82,68,69,82]:List UInt8).toArray⟩,.string ⟨([76,73,77,73,84]:List UInt8).toArray⟩,.string ⟨([65,83,67]:List UInt8).toArray⟩,.string ⟨([68,69,83,67]:List UInt8).toArray⟩,.string ⟨([65,83]:List UInt8).toArray⟩,.string ⟨([65,78,68]:List UInt8).toArray⟩,.string ⟨([79,82]:List UInt8).toArray⟩,.string ⟨([78,79,84]:List UInt8).toArray⟩,.string ⟨([73,83]:List UInt8).toArray⟩,.string ⟨([78,85,76,76]:List UInt8).toArray⟩,.string ⟨([84,82,85,69]:List UInt8).toArray⟩,.string ⟨([70,65,76,83,69]:List UInt8).toArray⟩,.string ⟨([67,79,85,78,84]:List UInt8).toArray⟩,.string ⟨([83,85,77]:List UInt8).toArray⟩,.string ⟨([77,73,78]:List UInt8).toArray⟩,.string ⟨([77,65,88]:List UInt8).toArray⟩],rfl,rfl,⟨[.string ⟨([68,73,83,84,73,78,67,84]:List UInt8).toArray⟩],[.string ⟨([70,82,79,77]:List UInt8).toArray⟩,.string ⟨([76,69,70,84]:List UInt8).toArray⟩,.string ⟨([74,79,73,78]:List UInt8).toArray⟩,.string ⟨([79,78]:List UInt8).toArray⟩,.string ⟨([87,72,69,82,69]:List UInt8).toArray⟩,.string ⟨([71,82,79,85,80]:List UInt8).toArray⟩,.string ⟨([66,89]:List UInt8).toArray⟩,.string ⟨([72,65,86,73,78,71]:List UInt8).toArray⟩,.string ⟨([85,78,73,79,78]:List UInt8).toArray⟩,.string ⟨([65,76,76]:List UInt8).toArray⟩,.string ⟨([79,82,68,69,82]:List UInt8).toArray⟩,.string ⟨([76,73,77,73,84]:List UInt8).toArray⟩,.string ⟨([65,83,67]:List UInt8).toArray⟩,.string ⟨([68,69,83,67]:List UInt8).toArray⟩,.string ⟨([65,83]:List UInt8).toArray⟩,.string ⟨([65,78,68]:List UInt8).toArray⟩,.string ⟨([79,82]:List UInt8).toArray⟩,.string ⟨([78,79,84]:List UInt8).toArray⟩,.string ⟨([73,83]:List UInt8).toArray⟩,.string ⟨([78,85,76,76]:List UInt8).toArray⟩,.string ⟨([84,82,85,69]:List UInt8).toArray⟩,.string ⟨([70,65,76,83,69]:List UInt8).toArray⟩,.string ⟨([67,79,85,78,84]:List UInt8).toArray⟩,.string ⟨([83,85,77]:List UInt8).toArray⟩,.string ⟨([77,73,78]:List UInt8).toArray⟩,.string ⟨([77,65,88]:List UInt8).toArray⟩],rfl,rfl,⟨[.string ⟨([70,82,79,77]:List UInt8).toArray⟩],[.string ⟨([76,69,70,84]:List UInt8).toArray⟩,.string ⟨([74,79,73,78]:List UInt8).toArray⟩,.string ⟨([79,78]:List UInt8).toArray⟩,.string ⟨([87,72,69,82,69]:List UInt8).toArray⟩,.string ⟨([71,82,79,85,80]:List UInt8).toArray⟩,.string ⟨([66,89]:List UInt8).toArray⟩,.string ⟨([72,65,86,73,78,71]:List UInt8).toArray⟩,.string ⟨([85,78,73,79,78]:List UInt8).toArray⟩,.string ⟨([65,76,76]:List UInt8).toArray⟩,.string ⟨([79,82,68,69,82]:List UInt8).toArray⟩,.string ⟨([76,73,77,73,84]:List UInt8).toArray⟩,.string ⟨([65,83,67]:List UInt8).toArray⟩,.string ⟨([68,69,83,67]:List UInt8).toArray⟩,.string ⟨([65,83]:List UInt8).toArray⟩,.string ⟨([65,78,68]:List UInt8).toArray⟩,.string ⟨([79,82]:List UInt8).toArray⟩,.string ⟨([78,79,84]:List UInt8).toArray⟩,.string ⟨([73,83]:List UInt8).toArray⟩,.string ⟨([78,85,76,76]:List UInt8).toArray⟩,.string ⟨([84,82,85,69]:List UInt8).toArray⟩,.string ⟨([70,65,76,83,69]:List UInt8).toArray⟩,.string ⟨([67,79,85,78,84]:List UInt8).toArray⟩,.string ⟨([83,85,77]:List UInt8).toArray⟩,.string ⟨([77,73,78]:List UInt8).toArray⟩,.string ⟨([77,65,88]:List UInt8).toArray⟩],rfl,rfl,⟨[.string ⟨([76,69,70,84]:List UInt8).toArray⟩],[.string ⟨([74,79,73,78]:List UInt8).toArray⟩,.string ⟨([79,78]:List UInt8).toArray⟩,.string ⟨([87,72,69,82,69]:List UInt8).toArray⟩,.string ⟨([71,82,79,85,80]:List UInt8).toArray⟩,.string ⟨([66,89]:List UInt8).toArray⟩,.string ⟨([72,65,86,73,78,71]:List UInt8).toArray⟩,.string ⟨([85,78,73,79,78]:List UInt8).toArray⟩,.string ⟨([65,76,76]:List UInt8).toArray⟩,.string ⟨([79,82,68,69,82]:List UInt8).toArray⟩,.string ⟨([76,73,77,73,84]:List UInt8).toArray⟩,.string ⟨([65,83,67]:List UInt8).toArray⟩,.string ⟨([68,69,83,67]:List UInt8).toArray⟩,.string ⟨([65,83]:List UInt8).toArray⟩,.string ⟨([65,78,68]:List UInt8).toArray⟩,.string ⟨([79,82]:List UInt8).toArray⟩,.string ⟨([78,79,84]:List UInt8).toArray⟩,.string ⟨([73,83]:List UInt8).toArray⟩,.string ⟨([78,85,76,76]:List UInt8).toArray⟩,.string ⟨([84,82,85,69]:List UInt8).toArray⟩,.string ⟨([70,65,76,83,69]:List UInt8).toArray⟩,.string ⟨([67,79,85,78,84]:List UInt8).toArray⟩,.string ⟨([83,85,77]:List UInt8).toArray⟩,.string ⟨([77,73,78]:List UInt8).toArray⟩,.string ⟨([77,65,88]:List UInt8).toArray⟩],rfl,rfl,⟨[.string ⟨([74,79,73,78]:List UInt8).toArray⟩],[.string ⟨([79,78]:List UInt8).toArray⟩,.string ⟨([87,72,69,82,69]:List UInt8).toArray⟩,.string ⟨([71,82,79,85,80]:List UInt8).toArray⟩,.string ⟨([66,89]:List UInt8).toArray⟩,.string ⟨([72,65,86,73,78,71]:List UInt8).toArray⟩,.string ⟨([85,78,73,79,78]:List UInt8).toArray⟩,.string ⟨([65,76,76]:List UInt8).toArray⟩,.string ⟨([79,82,68,69,82]:List UInt8).toArray⟩,.string ⟨([76,73,77,73,84]:List UInt8).toArray⟩,.string ⟨([65,83,67]:List UInt8).toArray⟩,.string ⟨([68,69,83,67]:List UInt8).toArray⟩,.string ⟨([65,83]:List UInt8).toArray⟩,.string ⟨([65,78,68]:List UInt8).toArray⟩,.string ⟨([79,82]:List UInt8).toArray⟩,.string ⟨([78,79,84]:List UInt8).toArray⟩,.string ⟨([73,83]:List UInt8).toArray⟩,.string ⟨([78,85,76,76]:List UInt8).toArray⟩,.string ⟨([84,82,85,69]:List UInt8).toArray⟩,.string ⟨([70,65,76,83,69]:List UInt8).toArray⟩,.string ⟨([67,79,85,78,84]:List UInt8).toArray⟩,.string ⟨([83,85,77]:List UInt8).toArray⟩,.string ⟨([77,73,78]:List UInt8).toArray⟩,.string ⟨([77,65,88]:List UInt8).toArray⟩],rfl,rfl,⟨[.string ⟨([79,78]:List UInt8).toArray⟩],[.string ⟨([87,72,69,82,69]:List UInt8).toArray⟩,.string ⟨([71,82,79,85,80]:List UInt8).toArray⟩,.string ⟨([66,89]:List UInt8).toArray⟩,.string ⟨([72,65,86,73,78,71]:List UInt8).toArray⟩,.string ⟨([85,78,73,79,78]:List UInt8).toArray⟩,.string ⟨([65,76,76]:List UInt8).toArray⟩,.string ⟨([79,82,68,69,82]:List UInt8).toArray⟩,.string ⟨([76,73,77,73,84]:List UInt8).toArray⟩,.string ⟨([65,83,67]:List UInt8).toArray⟩,.string ⟨([68,69,83,67]:List UInt8).toArray⟩,.string ⟨([65,83]:List UInt8).toArray⟩,.string ⟨([65,78,68]:List UInt8).toArray⟩,.string ⟨([79,82]:List UInt8).toArray⟩,.string ⟨([78,79,84]:List UInt8).toArray⟩,.string ⟨([73,83]:List UInt8).toArray⟩,.string ⟨([78,85,76,76]:List UInt8).toArray⟩,.string ⟨([84,82,85,69]:List UInt8).toArray⟩,.string ⟨([70,65,76,83,69]:List UInt8).toArray⟩,.string ⟨([67,79,85,78,84]:List UInt8).toArray⟩,.string ⟨([83,85,77]:List UInt8).toArray⟩,.string ⟨([77,73,78]:List UInt8).toArray⟩,.string ⟨([77,65,88]:List UInt8).toArray⟩],rfl,rfl,⟨[.string ⟨([87,72,69,82,69]:List UInt8).toArray⟩],[.string ⟨([71,82,79,85,80]:List UInt8).toArray⟩,.string ⟨([66,89]:List UInt8).toArray⟩,.string ⟨([72,65,86,73,78,71]:List UInt8).toArray⟩,.string ⟨([85,78,73,79,78]:List UInt8).toArray⟩,.string ⟨([65,76,76]:List UInt8).toArray⟩,.string ⟨([79,82,68,69,82]:List UInt8).toArray⟩,.string ⟨([76,73,77,73,84]:List UInt8).toArray⟩,.string ⟨([65,83,67]:List UInt8).toArray⟩,.string ⟨([68,69,83,67]:List UInt8).toArray⟩,.string ⟨([65,83]:List UInt8).toArray⟩,.string ⟨([65,78,68]:List UInt8).toArray⟩,.string ⟨([79,82]:List UInt8).toArray⟩,.string ⟨([78,79,84]:List UInt8).toArray⟩,.string ⟨([73,83]:List UInt8).toArray⟩,.string ⟨([78,85,76,76]:List UInt8).toArray⟩,.string ⟨([84,82,85,69]:List UInt8).toArray⟩,.string ⟨([70,65,76,83,69]:List UInt8).toArray⟩,.string ⟨([67,79,85,78,84]:List UInt8).toArray⟩,.string ⟨([83,85,77]:List UInt8).toArray⟩,.string ⟨([77,73,78]:List UInt8).toArray⟩,.string ⟨([77,65,88]:List UInt8).toArray⟩],rfl,rfl,⟨[.string ⟨([71,82,79,85,80]:List UInt8).toArray⟩],[.string ⟨([66,89]:List UInt8).toArray⟩,.string ⟨([72,65,86,73,78,71]:List UInt8).toArray⟩,.string ⟨([85,78,73,79,78]:List UInt8).toArray⟩,.string ⟨([65,76,76]:List UInt8).toArray⟩,.string ⟨([79,82,68,69,82]:List UInt8).toArray⟩,.string ⟨([76,73,77,73,84]:List UInt8).toArray⟩,.string ⟨([65,83,67]:List UInt8).toArray⟩,.string ⟨([68,69,83,67]:List UInt8).toArray⟩,.string ⟨([65,83]:List UInt8).toArray⟩,.string ⟨([65,78,68]:List UInt8).toArray⟩,.string ⟨([79,82]:List UInt8).toArray⟩,.string ⟨([78,79,84]:List UInt8).toArray⟩,.string ⟨([73,83]:List UInt8).toArray⟩,.string ⟨([78,85,76,76]:List UInt8).toArray⟩,.string ⟨([84,82,85,69]:List UInt8).toArray⟩,.string ⟨([70,65,76,83,69]:List UInt8).toArray⟩,.string ⟨([67,79,85,78,84]:List UInt8).toArray⟩,.string ⟨([83,85,77]:List UInt8).toArray⟩,.string ⟨([77,73,78]:List UInt8).toArray⟩,.string ⟨([77,65,88]:List UInt8).toArray⟩],rfl,rfl,⟨[.string ⟨([66,89]:List UInt8).toArray⟩],[.string ⟨([72,65,86,73,78,71]:List UInt8).toArray⟩,.string ⟨([85,78,73,79,78]:List UInt8).toArray⟩,.string ⟨([65,76,76]:List UInt8).toArray⟩,.string ⟨([79,82,68,69,82]:List UInt8).toArray⟩,.string ⟨([76,73,77,73,84]:List UInt8).toArray⟩,.string ⟨([65,83,67]:List UInt8).toArray⟩,.string ⟨([68,69,83,67]:List UInt8).toArray⟩,.string ⟨([65,83]:List UInt8).toArray⟩,.string ⟨([65,78,68]:List UInt8).toArray⟩,.string ⟨([79,82]:List UInt8).toArray⟩,.string ⟨([78,79,84]:List UInt8).toArray⟩,.string ⟨([73,83]:List UInt8).toArray⟩,.string ⟨([78,85,76,76]:List UInt8).toArray⟩,.string ⟨([84,82,85,69]:List UInt8).toArray⟩,.string ⟨([70,65,76,83,69]:List UInt8).toArray⟩,.string ⟨([67,79,85,78,84]:List UInt8).toArray⟩,.string ⟨([83,85,77]:List UInt8).toArray⟩,.string ⟨([77,73,78]:List UInt8).toArray⟩,.string ⟨([77,65,88]:List UInt8).toArray⟩],rfl,rfl,⟨[.string ⟨([72,65,86,73,78,71]:List UInt8).toArray⟩],[.string ⟨([85,78,73,79,78]:List UInt8).toArray⟩,.string ⟨([65,76,76]:List UInt8).toArray⟩,.string ⟨([79,82,68,69,82]:List UInt8).toArray⟩,.string ⟨([76,73,77,73,84]:List UInt8).toArray⟩,.string ⟨([65,83,67]:List UInt8).toArray⟩,.string ⟨([68,69,83,67]:List UInt8).toArray⟩,.string ⟨([65,83]:List UInt8).toArray⟩,.string ⟨([65,78,68]:List UInt8).toArray⟩,.string ⟨([79,82]:List UInt8).toArray⟩,.string ⟨([78,79,84]:List UInt8).toArray⟩,.string ⟨([73,83]:List UInt8).toArray⟩,.string ⟨([78,85,76,76]:List UInt8).toArray⟩,.string ⟨([84,82,85,69]:List UInt8).toArray⟩,.string ⟨([70,65,76,83,69]:List UInt8).toArray⟩,.string ⟨([67,79,85,78,84]:List UInt8).toArray⟩,.string ⟨([83,85,77]:List UInt8).toArray⟩,.string ⟨([77,73,78]:List UInt8).toArray⟩,.string ⟨([77,65,88]:List UInt8).toArray⟩],rfl,rfl,⟨[.string ⟨([85,78,73,79,78]:List UInt8).toArray⟩],[.string ⟨([65,76,76]:List UInt8).toArray⟩,.string ⟨([79,82,68,69,82]:List UInt8).toArray⟩,.string ⟨([76,73,77,73,84]:List UInt8).toArray⟩,.string ⟨([65,83,67]:List UInt8).toArray⟩,.string ⟨([68,69,83,67]:List UInt8).toArray⟩,.string ⟨([65,83]:List UInt8).toArray⟩,.string ⟨([65,78,68]:List UInt8).toArray⟩,.string ⟨([79,82]:List UInt8).toArray⟩,.string ⟨([78,79,84]:List UInt8).toArray⟩,.string ⟨([73,83]:List UInt8).toArray⟩,.string ⟨([78,85,76,76]:List UInt8).toArray⟩,.string ⟨([84,82,85,69]:List UInt8).toArray⟩,.string ⟨([70,65,76,83,69]:List UInt8).toArray⟩,.string ⟨([67,79,85,78,84]:List UInt8).toArray⟩,.string ⟨([83,85,77]:List UInt8).toArray⟩,.string ⟨([77,73,78]:List UInt8).toArray⟩,.string ⟨([77,65,88]:List UInt8).toArray⟩],rfl,rfl,⟨[.string ⟨([65,76,76]:List UInt8).toArray⟩],[.string ⟨([79,82,68,69,82]:List UInt8).toArray⟩,.string ⟨([76,73,77,73,84]:List UInt8).toArray⟩,.string ⟨([65,83,67]:List UInt8).toArray⟩,.string ⟨([68,69,83,67]:List UInt8).toArray⟩,.string ⟨([65,83]:List UInt8).toArray⟩,.string ⟨([65,78,68]:List UInt8).toArray⟩,.string ⟨([79,82]:List UInt8).toArray⟩,.string ⟨([78,79,84]:List UInt8).toArray⟩,.string ⟨([73,83]:List UInt8).toArray⟩,.string ⟨([78,85,76,76]:List UInt8).toArray⟩,.string ⟨([84,82,85,69]:List UInt8).toArray⟩,.string ⟨([70,65,76,83,69]:List UInt8).toArray⟩,.string ⟨([67,79,85,78,84]:List UInt8).toArray⟩,.string ⟨([83,85,77]:List UInt8).toArray⟩,.string ⟨([77,73,78]:List UInt8).toArray⟩,.string ⟨([77,65,88]:List UInt8).toArray⟩],rfl,rfl,⟨[.string ⟨([79,82,68,69,82]:List UInt8).toArray⟩],[.string ⟨([76,73,77,73,84]:List UInt8).toArray⟩,.string ⟨([65,83,67]:List UInt8).toArray⟩,.string ⟨([68,69,83,67]:List UInt8).toArray⟩,.string ⟨([65,83]:List UInt8).toArray⟩,.string ⟨([65,78,68]:List UInt8).toArray⟩,.string ⟨([79,82]:List UInt8).toArray⟩,.string ⟨([78,79,84]:List UInt8).toArray⟩,.string ⟨([73,83]:List UInt8).toArray⟩,.string ⟨([78,85,76,76]:List UInt8).toArray⟩,.string ⟨([84,82,85,69]:List UInt8).toArray⟩,.string ⟨([70,65,76,83,69]:List UInt8).toArray⟩,.string ⟨([67,79,85,78,84]:List UInt8).toArray⟩,.string ⟨([83,85,77]:List UInt8).toArray⟩,.string ⟨([77,73,78]:List UInt8).toArray⟩,.string ⟨([77,65,88]:List UInt8).toArray⟩],rfl,rfl,⟨[.string ⟨([76,73,77,73,84]:List UInt8).toArray⟩],[.string ⟨([65,83,67]:List UInt8).toArray⟩,.string ⟨([68,69,83,67]:List UInt8).toArray⟩,.string ⟨([65,83]:List UInt8).toArray⟩,.string ⟨([65,78,68]:List UInt8).toArray⟩,.string ⟨([79,82]:List UInt8).toArray⟩,.string ⟨([78,79,84]:List UInt8).toArray⟩,.string ⟨([73,83]:List UInt8).toArray⟩,.string ⟨([78,85,76,76]:List UInt8).toArray⟩,.string ⟨([84,82,85,69]:List UInt8).toArray⟩,.string ⟨([70,65,76,83,69]:List UInt8).toArray⟩,.string ⟨([67,79,85,78,84]:List UInt8).toArray⟩,.string ⟨([83,85,77]:List UInt8).toArray⟩,.string ⟨([77,73,78]:List UInt8).toArray⟩,.string ⟨([77,65,88]:List UInt8).toArray⟩],rfl,rfl,⟨[.string ⟨([65,83,67]:List UInt8).toArray⟩],[.string ⟨([68,69,83,67]:List UInt8).toArray⟩,.string ⟨([65,83]:List UInt8).toArray⟩,.string ⟨([65,78,68]:List UInt8).toArray⟩,.string ⟨([79,82]:List UInt8).toArray⟩,.string ⟨([78,79,84]:List UInt8).toArray⟩,.string ⟨([73,83]:List UInt8).toArray⟩,.string ⟨([78,85,76,76]:List UInt8).toArray⟩,.string ⟨([84,82,85,69]:List UInt8).toArray⟩,.string ⟨([70,65,76,83,69]:List UInt8).toArray⟩,.string ⟨([67,79,85,78,84]:List UInt8).toArray⟩,.string ⟨([83,85,77]:List UInt8).toArray⟩,.string ⟨([77,73,78]:List UInt8).toArray⟩,.string ⟨([77,65,88]:List UInt8).toArray⟩],rfl,rfl,⟨[.string ⟨([68,69,83,67]:List UInt8).toArray⟩],[.string ⟨([65,83]:List UInt8).toArray⟩,.string ⟨([65,78,68]:List UInt8).toArray⟩,.string ⟨([79,82]:List UInt8).toArray⟩,.string ⟨([78,79,84]:List UInt8).toArray⟩,.string ⟨([73,83]:List UInt8).toArray⟩,.string ⟨([78,85,76,76]:List UInt8).toArray⟩,.string ⟨([84,82,85,69]:List UInt8).toArray⟩,.string ⟨([70,65,76,83,69]:List UInt8).toArray⟩,.string ⟨([67,79,85,78,84]:List UInt8).toArray⟩,.string ⟨([83,85,77]:List UInt8).toArray⟩,.string ⟨([77,73,78]:List UInt8).toArray⟩,.string ⟨([77,65,88]:List UInt8).toArray⟩],rfl,rfl,⟨[.string ⟨([65,83]:List UInt8).toArray⟩],[.string ⟨([65,78,68]:List UInt8).toArray⟩,.string ⟨([79,82]:List UInt8).toArray⟩,.string ⟨([78,79,84]:List UInt8).toArray⟩,.string ⟨([73,83]:List UInt8).toArray⟩,.string ⟨([78,85,76,76]:List UInt8).toArray⟩,.string ⟨([84,82,85,69]:List UInt8).toArray⟩,.string ⟨([70,65,76,83,69]:List UInt8).toArray⟩,.string ⟨([67,79,85,78,84]:List UInt8).toArray⟩,.string ⟨([83,85,77]:List UInt8).toArray⟩,.string ⟨([77,73,78]:List UInt8).toArray⟩,.string ⟨([77,65,88]:List UInt8).toArray⟩],rfl,rfl,⟨[.string ⟨([65,78,68]:List UInt8).toArray⟩],[.string ⟨([79,82]:List UInt8).toArray⟩,.string ⟨([78,79,84]:List UInt8).toArray⟩,.string ⟨([73,83]:List UInt8).toArray⟩,.string ⟨([78,85,76,76]:List UInt8).toArray⟩,.string ⟨([84,82,85,69]:List UInt8).toArray⟩,.string ⟨([70,65,76,83,69]:List UInt8).toArray⟩,.string ⟨([67,79,85,78,84]:List UInt8).toArray⟩,.string ⟨([83,85,77]:List UInt8).toArray⟩,.string ⟨([77,73,78]:List UInt8).toArray⟩,.string ⟨([77,65,88]:List UInt8).toArray⟩],rfl,rfl,⟨[.string ⟨([79,82]:List UInt8).toArray⟩],[.string ⟨([78,79,84]:List UInt8).toArray⟩,.string ⟨([73,83]:List UInt8).toArray⟩,.string ⟨([78,85,76,76]:List UInt8).toArray⟩,.string ⟨([84,82,85,69]:List UInt8).toArray⟩,.string ⟨([70,65,76,83,69]:List UInt8).toArray⟩,.string ⟨([67,79,85,78,84]:List UInt8).toArray⟩,.string ⟨([83,85,77]:List UInt8).toArray⟩,.string ⟨([77,73,78]:List UInt8).toArray⟩,.string ⟨([77,65,88]:List UInt8).toArray⟩],rfl,rfl,⟨[.string ⟨([78,79,84]:List UInt8).toArray⟩],[.string ⟨([73,83]:List UInt8).toArray⟩,.string ⟨([78,85,76,76]:List UInt8).toArray⟩,.string ⟨([84,82,85,69]:List UInt8).toArray⟩,.string ⟨([70,65,76,83,69]:List UInt8).toArray⟩,.string ⟨([67,79,85,78,84]:List UInt8).toArray⟩,.string ⟨([83,85,77]:List UInt8).toArray⟩,.string ⟨([77,73,78]:List UInt8).toArray⟩,.string ⟨([77,65,88]:List UInt8).toArray⟩],rfl,rfl,⟨[.string ⟨([73,83]:List UInt8).toArray⟩],[.string ⟨([78,85,76,76]:List UInt8).toArray⟩,.string ⟨([84,82,85,69]:List UInt8).toArray⟩,.string ⟨([70,65,76,83,69]:List UInt8).toArray⟩,.string ⟨([67,79,85,78,84]:List UInt8).toArray⟩,.string ⟨([83,85,77]:List UInt8).toArray⟩,.string ⟨([77,73,78]:List UInt8).toArray⟩,.string ⟨([77,65,88]:List UInt8).toArray⟩],rfl,rfl,⟨[.string ⟨([78,85,76,76]:List UInt8).toArray⟩],[.string ⟨([84,82,85,69]:List UInt8).toArray⟩,.string ⟨([70,65,76,83,69]:List UInt8).toArray⟩,.string ⟨([67,79,85,78,84]:List UInt8).toArray⟩,.string ⟨([83,85,77]:List UInt8).toArray⟩,.string ⟨([77,73,78]:List UInt8).toArray⟩,.string ⟨([77,65,88]:List UInt8).toArray⟩],rfl,rfl,⟨[.string ⟨([84,82,85,69]:List UInt8).toArray⟩],[.string ⟨([70,65,76,83,69]:List UInt8).toArray⟩,.string ⟨([67,79,85,78,84]:List UInt8).toArray⟩,.string ⟨([83,85,77]:List UInt8).toArray⟩,.string ⟨([77,73,78]:List UInt8).toArray⟩,.string ⟨([77,65,88]:List UInt8).toArray⟩],rfl,rfl,⟨[.string ⟨([70,65,76,83,69]:List UInt8).toArray⟩],[.string ⟨([67,79,85,78,84]:List UInt8).toArray⟩,.string ⟨([83,85,77]:List UInt8).toArray⟩,.string ⟨([77,73,78]:List UInt8).toArray⟩,.string ⟨([77,65,88]:List UInt8).toArray⟩],rfl,rfl,⟨[.string ⟨([67,79,85,78,84]:List UInt8).toArray⟩],[.string ⟨([83,85,77]:List UInt8).toArray⟩,.string ⟨([77,73,78]:List UInt8).toArray⟩,.string ⟨([77,65,88]:List UInt8).toArray⟩],rfl,rfl,⟨[.string ⟨([83,85,77]:List UInt8).toArray⟩],[.string ⟨([77,73,78]:List UInt8).toArray⟩,.string ⟨([77,65,88]:List UInt8).toArray⟩],rfl,rfl,⟨[.string ⟨([77,73,78]:List UInt8).toArray⟩],[.string ⟨([77,65,88]:List UInt8).toArray⟩],rfl,rfl,⟨[.string ⟨([77,65,88]:List UInt8).toArray⟩],[],rfl,rfl,(rfl:_=[])⟩⟩⟩⟩⟩⟩⟩⟩⟩⟩⟩⟩⟩⟩⟩⟩⟩⟩⟩⟩⟩⟩⟩⟩⟩⟩⟩⟩⟩

end Go.Proofs.YthbdkceckjihgaaGreatDoor

