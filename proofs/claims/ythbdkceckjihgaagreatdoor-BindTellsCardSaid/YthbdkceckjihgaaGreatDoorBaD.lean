/- cH of this claim: D. -/
import Derived.Test.YthbdkceckjihgaaGreatDoorBaV3
import Derived.Test.YthbdkceckjihgaaGreatDoorBaV4
set_option linter.all false
namespace Go.Proofs.YthbdkceckjihgaaGreatDoor
open Go

structure bw where
 Name:dN
 Kind:Int
 deriving DecidableEq,Inhabited
def bO:Rp bw:=f7 (br rS (rI .i64)) (fun x=>(x.Name,x.Kind))
def iP:fW bO 0 rS (fun x=>x.Name):=(bU bi)
def qK:dk bO 0 rS (fun x y=>{x with Name:=y}):=bf bR (fun _ _=>rfl)
def mC:fW bO 1 (rI .i64) (fun x=>x.Kind):=(ap bi rfl)
def qJ:dk bO 1 (rI .i64) (fun x y=>{x with Kind:=y}):=bf (am al rfl) (fun _ _=>rfl)
def i7: ∀S,bO.rc S [.string ⟨#[]⟩,.int .i64 0] ((⟨[],(0:Int)⟩:bw)):=fun _=>⟨[.string ⟨#[]⟩],[.int .i64 0],rfl,rfl,rfl⟩
structure z1 where
 word:dN
 kind:Int
 deriving DecidableEq,Inhabited
def rs:Rp z1:=f7 (br rS (rI .i64)) (fun x=>(x.word,x.kind))
def Ge:fW rs 0 rS (fun x=>x.word):=(bU bi)
def Gd:fW rs 1 (rI .i64) (fun x=>x.kind):=(ap bi rfl)
def IG: ∀S,rs.rc S [.string ⟨#[]⟩,.int .i64 0] ((⟨[],(0:Int)⟩:z1)):=fun _=>⟨[.string ⟨#[]⟩],[.int .i64 0],rfl,rfl,rfl⟩
structure bv where
 Name:dN
 Columns:(List bw)
 Keys:(List Int)
 deriving DecidableEq,Inhabited
def bW:Rp bv:=f7 (br rS (br (dz bO) (dz (rI .i64)))) (fun x=>(x.Name,x.Columns,x.Keys))
def nP:fW bW 0 rS (fun x=>x.Name):=(bU bi)
def xz:dk bW 0 rS (fun x y=>{x with Name:=y}):=bf bR (fun _ _=>rfl)
def ew:fW bW 1 (dz bO) (fun x=>x.Columns):=(bU (ap bi rfl))
def sW:dk bW 1 (dz bO) (fun x y=>{x with Columns:=y}):=bf (am bR rfl) (fun _ _=>rfl)
def jB:fW bW 2 (dz (rI .i64)) (fun x=>x.Keys):=(ap (ap bi rfl) rfl)
def C8:dk bW 2 (dz (rI .i64)) (fun x y=>{x with Keys:=y}):=bf (am (am al rfl) rfl) (fun _ _=>rfl)
def tH: ∀S,bW.rc S [.string ⟨#[]⟩,.slice none 0 0,.slice none 0 0] ((⟨[],[],[]⟩:bv)):=fun _=>⟨[.string ⟨#[]⟩],[.slice none 0 0,.slice none 0 0],rfl,rfl,⟨[.slice none 0 0],[.slice none 0 0],rfl,⟨none,0,rfl,gP _,iM _,.inl rfl⟩,⟨none,0,rfl,gP _,iM _,.inl rfl⟩⟩⟩
structure aY where
 Tables:(List bv)
 deriving DecidableEq,Inhabited
def bc:Rp aY:=f7 (dz bW) (fun x=>(x.Tables))
def dw:fW bc 0 (dz bW) (fun x=>x.Tables):=bi
def Ax:dk bc 0 (dz bW) (fun x y=>{x with Tables:=y}):=bf al (fun _ _=>rfl)
def lH: ∀S,bc.rc S [.slice none 0 0] ((⟨[]⟩:aY)):=fun _=>⟨none,0,rfl,gP _,iM _,.inl rfl⟩
structure dl where
 Kind:Int
 N:Int
 U:Int
 S:dN
 deriving DecidableEq,Inhabited
def dd:Rp dl:=f7 (br (rI .i64) (br (rI .i64) (br (rI .u64) rS))) (fun x=>(x.Kind,x.N,x.U,x.S))
def pL:fW dd 0 (rI .i64) (fun x=>x.Kind):=(bU bi)
def sV:dk dd 0 (rI .i64) (fun x y=>{x with Kind:=y}):=bf bR (fun _ _=>rfl)
def pK:fW dd 1 (rI .i64) (fun x=>x.N):=(bU (ap bi rfl))
def xy:dk dd 1 (rI .i64) (fun x y=>{x with N:=y}):=bf (am bR rfl) (fun _ _=>rfl)
def Dz:fW dd 2 (rI .u64) (fun x=>x.U):=(bU (ap (ap bi rfl) rfl))
def C7:dk dd 2 (rI .u64) (fun x y=>{x with U:=y}):=bf (am (am bR rfl) rfl) (fun _ _=>rfl)
def nO:fW dd 3 rS (fun x=>x.S):=(ap (ap (ap bi rfl) rfl) rfl)
def xx:dk dd 3 rS (fun x y=>{x with S:=y}):=bf (am (am (am al rfl) rfl) rfl) (fun _ _=>rfl)
def ny: ∀S,dd.rc S [.int .i64 0,.int .i64 0,.int .u64 0,.string ⟨#[]⟩] ((⟨(0:Int),(0:Int),(0:Int),[]⟩:dl)):=fun _=>⟨[.int .i64 0],[.int .i64 0,.int .u64 0,.string ⟨#[]⟩],rfl,rfl,⟨[.int .i64 0],[.int .u64 0,.string ⟨#[]⟩],rfl,rfl,⟨[.int .u64 0],[.string ⟨#[]⟩],rfl,rfl,rfl⟩⟩⟩
structure dZ where
 Tag:Int
 L:Int
 R:Int
 Value:dl
 Table:dN
 Name:dN
 deriving DecidableEq,Inhabited
def cg:Rp dZ:=f7 (br (rI .i64) (br (rI .i64) (br (rI .i64) (br dd (br rS rS))))) (fun x=>(x.Tag,x.L,x.R,x.Value,x.Table,x.Name))
def jX:fW cg 0 (rI .i64) (fun x=>x.Tag):=(bU bi)
def FT:dk cg 0 (rI .i64) (fun x y=>{x with Tag:=y}):=bf bR (fun _ _=>rfl)
def zF:fW cg 1 (rI .i64) (fun x=>x.L):=(bU (ap bi rfl))
def FS:dk cg 1 (rI .i64) (fun x y=>{x with L:=y}):=bf (am bR rfl) (fun _ _=>rfl)
def zE:fW cg 2 (rI .i64) (fun x=>x.R):=(bU (ap (ap bi rfl) rfl))
def FR:dk cg 2 (rI .i64) (fun x y=>{x with R:=y}):=bf (am (am bR rfl) rfl) (fun _ _=>rfl)
def kK:fW cg 3 dd (fun x=>x.Value):=(bU (ap (ap (ap bi rfl) rfl) rfl))
def FQ:dk cg 3 dd (fun x y=>{x with Value:=y}):=bf (am (am (am bR rfl) rfl) rfl) (fun _ _=>rfl)
def pl:fW cg 7 rS (fun x=>x.Table):=(bU (ap (ap (ap (ap bi rfl) rfl) rfl) rfl))
def FP:dk cg 7 rS (fun x y=>{x with Table:=y}):=bf (am (am (am (am bR rfl) rfl) rfl) rfl) (fun _ _=>rfl)
def ns:fW cg 8 rS (fun x=>x.Name):=(ap (ap (ap (ap (ap bi rfl) rfl) rfl) rfl) rfl)
def zc:dk cg 8 rS (fun x y=>{x with Name:=y}):=bf (am (am (am (am (am al rfl) rfl) rfl) rfl) rfl) (fun _ _=>rfl)
def tI: ∀S,cg.rc S [.int .i64 0,.int .i64 0,.int .i64 0,.int .i64 0,.int .i64 0,.int .u64 0,.string ⟨#[]⟩,.string ⟨#[]⟩,.string ⟨#[]⟩] ((⟨(0:Int),(0:Int),(0:Int),(⟨(0:Int),(0:Int),(0:Int),[]⟩:dl),[],[]⟩:dZ)):=fun _=>⟨[.int .i64 0],[.int .i64 0,.int .i64 0,.int .i64 0,.int .i64 0,.int .u64 0,.string ⟨#[]⟩,.string ⟨#[]⟩,.string ⟨#[]⟩],rfl,rfl,⟨[.int .i64 0],[.int .i64 0,.int .i64 0,.int .i64 0,.int .u64 0,.string ⟨#[]⟩,.string ⟨#[]⟩,.string ⟨#[]⟩],rfl,rfl,⟨[.int .i64 0],[.int .i64 0,.int .i64 0,.int .u64 0,.string ⟨#[]⟩,.string ⟨#[]⟩,.string ⟨#[]⟩],rfl,rfl,⟨[.int .i64 0,.int .i64 0,.int .u64 0,.string ⟨#[]⟩],[.string ⟨#[]⟩,.string ⟨#[]⟩],rfl,ny _,⟨[.string ⟨#[]⟩],[.string ⟨#[]⟩],rfl,rfl,rfl⟩⟩⟩⟩⟩
structure cD where
 Nodes:(List dZ)
 deriving DecidableEq,Inhabited
def bh:Rp cD:=f7 (dz cg) (fun x=>(x.Nodes))
def gv:fW bh 0 (dz cg) (fun x=>x.Nodes):=bi
def FO:dk bh 0 (dz cg) (fun x y=>{x with Nodes:=y}):=bf al (fun _ _=>rfl)
def m7: ∀S,bh.rc S [.slice none 0 0] ((⟨[]⟩:cD)):=fun _=>⟨none,0,rfl,gP _,iM _,.inl rfl⟩
structure er where
 Tree:cD
 As:dN
 deriving DecidableEq,Inhabited
def cV:Rp er:=f7 (br bh rS) (fun x=>(x.Tree,x.As))
def kL:fW cV 0 bh (fun x=>x.Tree):=(bU bi)
def zf:dk cV 0 bh (fun x y=>{x with Tree:=y}):=bf bR (fun _ _=>rfl)
def zI:fW cV 1 rS (fun x=>x.As):=(ap bi rfl)
def pz: ∀S,cV.rc S [.slice none 0 0,.string ⟨#[]⟩] ((⟨(⟨[]⟩:cD),[]⟩:er)):=fun _=>⟨[.slice none 0 0],[.string ⟨#[]⟩],rfl,m7 _,rfl⟩
structure fD where
 Table:dN
 As:dN
 deriving DecidableEq,Inhabited
def eT:Rp fD:=f7 (br rS rS) (fun x=>(x.Table,x.As))
def qV:fW eT 0 rS (fun x=>x.Table):=(bU bi)
def BL:dk eT 0 rS (fun x y=>{x with Table:=y}):=bf bR (fun _ _=>rfl)
def qU:fW eT 1 rS (fun x=>x.As):=(ap bi rfl)
def rm: ∀S,eT.rc S [.string ⟨#[]⟩,.string ⟨#[]⟩] ((⟨[],[]⟩:fD)):=fun _=>⟨[.string ⟨#[]⟩],[.string ⟨#[]⟩],rfl,rfl,rfl⟩
structure kN where
 Left:Bool
 Source:fD
 On:cD
 deriving DecidableEq,Inhabited
def d7:Rp kN:=f7 (br rB (br eT bh)) (fun x=>(x.Left,x.Source,x.On))
def Gg:fW d7 0 rB (fun x=>x.Left):=(bU bi)
def zG:fW d7 1 eT (fun x=>x.Source):=(bU (ap bi rfl))
def vx:fW d7 3 bh (fun x=>x.On):=(ap (ap bi rfl) rfl)
def FU:dk d7 3 bh (fun x y=>{x with On:=y}):=bf (am (am al rfl) rfl) (fun _ _=>rfl)
def Af: ∀S,d7.rc S [.bool false,.string ⟨#[]⟩,.string ⟨#[]⟩,.slice none 0 0] ((⟨false,(⟨[],[]⟩:fD),(⟨[]⟩:cD)⟩:kN)):=fun _=>⟨[.bool false],[.string ⟨#[]⟩,.string ⟨#[]⟩,.slice none 0 0],rfl,rfl,⟨[.string ⟨#[]⟩,.string ⟨#[]⟩],[.slice none 0 0],rfl,rm _,m7 _⟩⟩
structure iK where
 Table:dN
 Name:dN
 deriving DecidableEq,Inhabited
def dS:Rp iK:=f7 (br rS rS) (fun x=>(x.Table,x.Name))
def vw:fW dS 0 rS (fun x=>x.Table):=(bU bi)
def ze:dk dS 0 rS (fun x y=>{x with Table:=y}):=bf bR (fun _ _=>rfl)
def vv:fW dS 1 rS (fun x=>x.Name):=(ap bi rfl)
def zd:dk dS 1 rS (fun x y=>{x with Name:=y}):=bf (am al rfl) (fun _ _=>rfl)
def wR: ∀S,dS.rc S [.string ⟨#[]⟩,.string ⟨#[]⟩] ((⟨[],[]⟩:iK)):=fun _=>⟨[.string ⟨#[]⟩],[.string ⟨#[]⟩],rfl,rfl,rfl⟩
structure aJ where
 Distinct:Bool
 Star:Bool
 Items:(List er)
 From:fD
 Joins:(List kN)
 Where:cD
 Having:cD
 Group:(List iK)
 deriving DecidableEq,Inhabited
def aV:Rp aJ:=f7 (br rB (br rB (br (dz cV) (br eT (br (dz d7) (br bh (br bh (dz dS)))))))) (fun x=>(x.Distinct,x.Star,x.Items,x.From,x.Joins,x.Where,x.Having,x.Group))
def Cf:fW aV 0 rB (fun x=>x.Distinct):=(bU bi)
def oJ:fW aV 1 rB (fun x=>x.Star):=(bU (ap bi rfl))
def iO:fW aV 2 (dz cV) (fun x=>x.Items):=(bU (ap (ap bi rfl) rfl))
def BN:dk aV 2 (dz cV) (fun x y=>{x with Items:=y}):=bf (am (am bR rfl) rfl) (fun _ _=>rfl)
def wd:fW aV 3 eT (fun x=>x.From):=(bU (ap (ap (ap bi rfl) rfl) rfl))
def BM:dk aV 3 eT (fun x y=>{x with From:=y}):=bf (am (am (am bR rfl) rfl) rfl) (fun _ _=>rfl)
def mB:fW aV 5 (dz d7) (fun x=>x.Joins):=(bU (ap (ap (ap (ap bi rfl) rfl) rfl) rfl))
def qW:fW aV 6 bh (fun x=>x.Where):=(bU (ap (ap (ap (ap (ap bi rfl) rfl) rfl) rfl) rfl))
def mA:fW aV 7 bh (fun x=>x.Having):=(bU (ap (ap (ap (ap (ap (ap bi rfl) rfl) rfl) rfl) rfl) rfl))
def iN:fW aV 8 (dz dS) (fun x=>x.Group):=(ap (ap (ap (ap (ap (ap (ap bi rfl) rfl) rfl) rfl) rfl) rfl) rfl)
def rn: ∀S,aV.rc S [.bool false,.bool false,.slice none 0 0,.string ⟨#[]⟩,.string ⟨#[]⟩,.slice none 0 0,.slice none 0 0,.slice none 0 0,.slice none 0 0] ((⟨false,false,[],(⟨[],[]⟩:fD),[],(⟨[]⟩:cD),(⟨[]⟩:cD),[]⟩:aJ)):=fun _=>⟨[.bool false],[.bool false,.slice none 0 0,.string ⟨#[]⟩,.string ⟨#[]⟩,.slice none 0 0,.slice none 0 0,.slice none 0 0,.slice none 0 0],rfl,rfl,⟨[.bool false],[.slice none 0 0,.string ⟨#[]⟩,.string ⟨#[]⟩,.slice none 0 0,.slice none 0 0,.slice none 0 0,.slice none 0 0],rfl,rfl,⟨[.slice none 0 0],[.string ⟨#[]⟩,.string ⟨#[]⟩,.slice none 0 0,.slice none 0 0,.slice none 0 0,.slice none 0 0],rfl,⟨none,0,rfl,gP _,iM _,.inl rfl⟩,⟨[.string ⟨#[]⟩,.string ⟨#[]⟩],[.slice none 0 0,.slice none 0 0,.slice none 0 0,.slice none 0 0],rfl,rm _,⟨[.slice none 0 0],[.slice none 0 0,.slice none 0 0,.slice none 0 0],rfl,⟨none,0,rfl,gP _,iM _,.inl rfl⟩,⟨[.slice none 0 0],[.slice none 0 0,.slice none 0 0],rfl,m7 _,⟨[.slice none 0 0],[.slice none 0 0],rfl,m7 _,⟨none,0,rfl,gP _,iM _,.inl rfl⟩⟩⟩⟩⟩⟩⟩⟩
structure iJ where
 first:Int
 depth:Int
 deriving DecidableEq,Inhabited
def ek:Rp iJ:=f7 (br (rI .i64) (rI .i64)) (fun x=>(x.first,x.depth))
def xW:fW ek 0 (rI .i64) (fun x=>x.first):=(bU bi)
def xw:dk ek 0 (rI .i64) (fun x y=>{x with first:=y}):=bf bR (fun _ _=>rfl)
def pJ:fW ek 1 (rI .i64) (fun x=>x.depth):=(ap bi rfl)
def xv:dk ek 1 (rI .i64) (fun x y=>{x with depth:=y}):=bf (am al rfl) (fun _ _=>rfl)
def Bw: ∀S,ek.rc S [.int .i64 0,.int .i64 0] ((⟨(0:Int),(0:Int)⟩:iJ)):=fun _=>⟨[.int .i64 0],[.int .i64 0],rfl,rfl,rfl⟩
structure tv where
 Name:dN
 Number:Int
 Desc:Bool
 deriving DecidableEq,Inhabited
def gk:Rp tv:=f7 (br rS (br (rI .i64) rB)) (fun x=>(x.Name,x.Number,x.Desc))
def qY:fW gk 0 rS (fun x=>x.Name):=(bU bi)
def qX:fW gk 1 (rI .i64) (fun x=>x.Number):=(bU (ap bi rfl))
def Hd:dk gk 1 (rI .i64) (fun x y=>{x with Number:=y}):=bf (am bR rfl) (fun _ _=>rfl)
def HE:fW gk 2 rB (fun x=>x.Desc):=(ap (ap bi rfl) rfl)
def CS: ∀S,gk.rc S [.string ⟨#[]⟩,.int .i64 0,.bool false] ((⟨[],(0:Int),false⟩:tv)):=fun _=>⟨[.string ⟨#[]⟩],[.int .i64 0,.bool false],rfl,rfl,⟨[.int .i64 0],[.bool false],rfl,rfl,rfl⟩⟩
structure bD where
 Selects:(List aJ)
 Keys:(List tv)
 Limit:Int
 deriving DecidableEq,Inhabited
def bH:Rp bD:=f7 (br (dz aV) (br (dz gk) (rI .i64))) (fun x=>(x.Selects,x.Keys,x.Limit))
def lO:fW bH 0 (dz aV) (fun x=>x.Selects):=(bU bi)
def Db:dk bH 0 (dz aV) (fun x y=>{x with Selects:=y}):=bf bR (fun _ _=>rfl)
def nQ:fW bH 1 (dz gk) (fun x=>x.Keys):=(bU (ap bi rfl))
def Da:dk bH 1 (dz gk) (fun x y=>{x with Keys:=y}):=bf (am bR rfl) (fun _ _=>rfl)
def s4:fW bH 2 (rI .i64) (fun x=>x.Limit):=(ap (ap bi rfl) rfl)
def C9:dk bH 2 (rI .i64) (fun x y=>{x with Limit:=y}):=bf (am (am al rfl) rfl) (fun _ _=>rfl)
def qB: ∀S,bH.rc S [.slice none 0 0,.slice none 0 0,.int .i64 0] ((⟨[],[],(0:Int)⟩:bD)):=fun _=>⟨[.slice none 0 0],[.slice none 0 0,.int .i64 0],rfl,⟨none,0,rfl,gP _,iM _,.inl rfl⟩,⟨[.slice none 0 0],[.int .i64 0],rfl,⟨none,0,rfl,gP _,iM _,.inl rfl⟩,rfl⟩⟩
structure aS where
 Tag:Int
 L:Int
 R:Int
 Col:Int
 Value:dl
 deriving DecidableEq,Inhabited
def bg:Rp aS:=f7 (br (rI .i64) (br (rI .i64) (br (rI .i64) (br (rI .i64) dd)))) (fun x=>(x.Tag,x.L,x.R,x.Col,x.Value))
def gF:fW bg 0 (rI .i64) (fun x=>x.Tag):=(bU bi)
def lL:dk bg 0 (rI .i64) (fun x y=>{x with Tag:=y}):=bf bR (fun _ _=>rfl)
def pN:fW bg 1 (rI .i64) (fun x=>x.L):=(bU (ap bi rfl))
def xB:dk bg 1 (rI .i64) (fun x y=>{x with L:=y}):=bf (am bR rfl) (fun _ _=>rfl)
def pM:fW bg 2 (rI .i64) (fun x=>x.R):=(bU (ap (ap bi rfl) rfl))
def xA:dk bg 2 (rI .i64) (fun x y=>{x with R:=y}):=bf (am (am bR rfl) rfl) (fun _ _=>rfl)
def jC:fW bg 3 (rI .i64) (fun x=>x.Col):=(bU (ap (ap (ap bi rfl) rfl) rfl))
def sX:dk bg 3 (rI .i64) (fun x y=>{x with Col:=y}):=bf (am (am (am bR rfl) rfl) rfl) (fun _ _=>rfl)
def nR:fW bg 4 dd (fun x=>x.Value):=(ap (ap (ap (ap bi rfl) rfl) rfl) rfl)
def Dc:dk bg 4 dd (fun x y=>{x with Value:=y}):=bf (am (am (am (am al rfl) rfl) rfl) rfl) (fun _ _=>rfl)
def kn: ∀S,bg.rc S [.int .i64 0,.int .i64 0,.int .i64 0,.int .i64 0,.int .i64 0,.int .i64 0,.int .u64 0,.string ⟨#[]⟩] ((⟨(0:Int),(0:Int),(0:Int),(0:Int),(⟨(0:Int),(0:Int),(0:Int),[]⟩:dl)⟩:aS)):=fun _=>⟨[.int .i64 0],[.int .i64 0,.int .i64 0,.int .i64 0,.int .i64 0,.int .i64 0,.int .u64 0,.string ⟨#[]⟩],rfl,rfl,⟨[.int .i64 0],[.int .i64 0,.int .i64 0,.int .i64 0,.int .i64 0,.int .u64 0,.string ⟨#[]⟩],rfl,rfl,⟨[.int .i64 0],[.int .i64 0,.int .i64 0,.int .i64 0,.int .u64 0,.string ⟨#[]⟩],rfl,rfl,⟨[.int .i64 0],[.int .i64 0,.int .i64 0,.int .u64 0,.string ⟨#[]⟩],rfl,rfl,ny _⟩⟩⟩⟩
structure ca where
 Nodes:(List aS)
 deriving DecidableEq,Inhabited
def aa:Rp ca:=f7 (dz bg) (fun x=>(x.Nodes))
def lP:fW aa 0 (dz bg) (fun x=>x.Nodes):=bi
def FV:dk aa 0 (dz bg) (fun x y=>{x with Nodes:=y}):=bf al (fun _ _=>rfl)
def dD: ∀S,aa.rc S [.slice none 0 0] ((⟨[]⟩:ca)):=fun _=>⟨none,0,rfl,gP _,iM _,.inl rfl⟩
structure o6 where
 Left:Bool
 On:ca
 deriving DecidableEq,Inhabited
def aD:Rp o6:=f7 (br rB aa) (fun x=>(x.Left,x.On))
def De:dk aD 0 rB (fun x y=>{x with Left:=y}):=bf bR (fun _ _=>rfl)
def Dd:dk aD 1 aa (fun x y=>{x with On:=y}):=bf (am al rfl) (fun _ _=>rfl)
def GU: ∀S,aD.rc S [.bool false,.slice none 0 0] ((⟨false,(⟨[]⟩:ca)⟩:o6)):=fun _=>⟨[.bool false],[.slice none 0 0],rfl,rfl,dD _⟩
structure mI where
 Tag:Int
 Arg:ca
 deriving DecidableEq,Inhabited
def aN:Rp mI:=f7 (br (rI .i64) aa) (fun x=>(x.Tag,x.Arg))
def pm:fW aN 0 (rI .i64) (fun x=>x.Tag):=(bU bi)
def Hf:dk aN 0 (rI .i64) (fun x y=>{x with Tag:=y}):=bf bR (fun _ _=>rfl)
def xY:fW aN 1 aa (fun x=>x.Arg):=(ap bi rfl)
def He:dk aN 1 aa (fun x y=>{x with Arg:=y}):=bf (am al rfl) (fun _ _=>rfl)
def GV: ∀S,aN.rc S [.int .i64 0,.slice none 0 0] ((⟨(0:Int),(⟨[]⟩:ca)⟩:mI)):=fun _=>⟨[.int .i64 0],[.slice none 0 0],rfl,rfl,dD _⟩
structure bP where
 Tables:(List Int)
 Joins:(List o6)
 Where:ca
 Having:ca
 Grouped:Bool
 Distinct:Bool
 Keys:(List Int)
 Aggs:(List mI)
 Items:(List ca)
 deriving DecidableEq,Inhabited
def bM:Rp bP:=f7 (br (dz (rI .i64)) (br (dz aD) (br aa (br aa (br rB (br rB (br (dz (rI .i64)) (br (dz aN) (dz aa))))))))) (fun x=>(x.Tables,x.Joins,x.Where,x.Having,x.Grouped,x.Distinct,x.Keys,x.Aggs,x.Items))
def AV:fW bM 0 (dz (rI .i64)) (fun x=>x.Tables):=(bU bi)
def t8:dk bM 0 (dz (rI .i64)) (fun x y=>{x with Tables:=y}):=bf bR (fun _ _=>rfl)
def AC:dk bM 1 (dz aD) (fun x y=>{x with Joins:=y}):=bf (am bR rfl) (fun _ _=>rfl)
def AB:dk bM 2 aa (fun x y=>{x with Where:=y}):=bf (am (am bR rfl) rfl) (fun _ _=>rfl)
def AA:dk bM 3 aa (fun x y=>{x with Having:=y}):=bf (am (am (am bR rfl) rfl) rfl) (fun _ _=>rfl)
def lc:fW bM 4 rB (fun x=>x.Grouped):=(bU (ap (ap (ap (ap bi rfl) rfl) rfl) rfl))
def tZ:dk bM 4 rB (fun x y=>{x with Grouped:=y}):=bf (am (am (am (am bR rfl) rfl) rfl) rfl) (fun _ _=>rfl)
def Az:dk bM 5 rB (fun x y=>{x with Distinct:=y}):=bf (am (am (am (am (am bR rfl) rfl) rfl) rfl) rfl) (fun _ _=>rfl)
def AU:fW bM 6 (dz (rI .i64)) (fun x=>x.Keys):=(bU (ap (ap (ap (ap (ap (ap bi rfl) rfl) rfl) rfl) rfl) rfl))
def tY:dk bM 6 (dz (rI .i64)) (fun x y=>{x with Keys:=y}):=bf (am (am (am (am (am (am bR rfl) rfl) rfl) rfl) rfl) rfl) (fun _ _=>rfl)
def AS:fW bM 7 (dz aN) (fun x=>x.Aggs):=(bU (ap (ap (ap (ap (ap (ap (ap bi rfl) rfl) rfl) rfl) rfl) rfl) rfl))
def Ay:dk bM 7 (dz aN) (fun x y=>{x with Aggs:=y}):=bf (am (am (am (am (am (am (am bR rfl) rfl) rfl) rfl) rfl) rfl) rfl) (fun _ _=>rfl)
def AR:fW bM 8 (dz aa) (fun x=>x.Items):=(ap (ap (ap (ap (ap (ap (ap (ap bi rfl) rfl) rfl) rfl) rfl) rfl) rfl) rfl)
def tX:dk bM 8 (dz aa) (fun x y=>{x with Items:=y}):=bf (am (am (am (am (am (am (am (am al rfl) rfl) rfl) rfl) rfl) rfl) rfl) rfl) (fun _ _=>rfl)
def xh: ∀S,bM.rc S [.slice none 0 0,.slice none 0 0,.slice none 0 0,.slice none 0 0,.bool false,.bool false,.slice none 0 0,.slice none 0 0,.slice none 0 0] ((⟨[],[],(⟨[]⟩:ca),(⟨[]⟩:ca),false,false,[],[],[]⟩:bP)):=fun _=>⟨[.slice none 0 0],[.slice none 0 0,.slice none 0 0,.slice none 0 0,.bool false,.bool false,.slice none 0 0,.slice none 0 0,.slice none 0 0],rfl,⟨none,0,rfl,gP _,iM _,.inl rfl⟩,⟨[.slice none 0 0],[.slice none 0 0,.slice none 0 0,.bool false,.bool false,.slice none 0 0,.slice none 0 0,.slice none 0 0],rfl,⟨none,0,rfl,gP _,iM _,.inl rfl⟩,⟨[.slice none 0 0],[.slice none 0 0,.bool false,.bool false,.slice none 0 0,.slice none 0 0,.slice none 0 0],rfl,dD _,⟨[.slice none 0 0],[.bool false,.bool false,.slice none 0 0,.slice none 0 0,.slice none 0 0],rfl,dD _,⟨[.bool false],[.bool false,.slice none 0 0,.slice none 0 0,.slice none 0 0],rfl,rfl,⟨[.bool false],[.slice none 0 0,.slice none 0 0,.slice none 0 0],rfl,rfl,⟨[.slice none 0 0],[.slice none 0 0,.slice none 0 0],rfl,⟨none,0,rfl,gP _,iM _,.inl rfl⟩,⟨[.slice none 0 0],[.slice none 0 0],rfl,⟨none,0,rfl,gP _,iM _,.inl rfl⟩,⟨none,0,rfl,gP _,iM _,.inl rfl⟩⟩⟩⟩⟩⟩⟩⟩⟩
structure an where
 Catalog:aY
 from_:aJ
 out:bP
 called:(List (dN×Bool))
 alone:(List (dN×(List Int)))
 behind:(List ((dN×dN)×Int))
 kinds:(List Int)
 groups:(List Int)
 at_:Int
 deriving DecidableEq,Inhabited
def aq:Rp an:=f7 (br bc (br aV (br bM (br (FZ:Rp (List (dN×Bool))) (br (FZ:Rp (List (dN×(List Int)))) (br (FZ:Rp (List ((dN×dN)×Int))) (br (dz (rI .i64)) (br (dz (rI .i64)) (rI .i64))))))))) (fun x=>(x.Catalog,x.from_,x.out,x.called,x.alone,x.behind,x.kinds,x.groups,x.at_))
def s3:fW aq 0 bc (fun x=>x.Catalog):=(bU bi)
def fa:fW aq 1 aV (fun x=>x.from_):=(bU (ap bi rfl))
def eR:fW aq 10 bM (fun x=>x.out):=(bU (ap (ap bi rfl) rfl))
def hU:dk aq 10 bM (fun x y=>{x with out:=y}):=bf (am (am bR rfl) rfl) (fun _ _=>rfl)
def C6:dk aq 22 (dz (rI .i64)) (fun x y=>{x with kinds:=y}):=bf (am (am (am (am (am (am bR rfl) rfl) rfl) rfl) rfl) rfl) (fun _ _=>rfl)
def xu:dk aq 23 (dz (rI .i64)) (fun x y=>{x with groups:=y}):=bf (am (am (am (am (am (am (am bR rfl) rfl) rfl) rfl) rfl) rfl) rfl) (fun _ _=>rfl)
def xV:fW aq 24 (rI .i64) (fun x=>x.at_):=(ap (ap (ap (ap (ap (ap (ap (ap bi rfl) rfl) rfl) rfl) rfl) rfl) rfl) rfl)
def lK:dk aq 24 (rI .i64) (fun x y=>{x with at_:=y}):=bf (am (am (am (am (am (am (am (am al rfl) rfl) rfl) rfl) rfl) rfl) rfl) rfl) (fun _ _=>rfl)
structure yB where
 Col:Int
 Desc:Bool
 deriving DecidableEq,Inhabited
def kA:Rp yB:=f7 (br (rI .i64) rB) (fun x=>(x.Col,x.Desc))
def Hc:dk kA 0 (rI .i64) (fun x y=>{x with Col:=y}):=bf bR (fun _ _=>rfl)
def Hb:dk kA 1 rB (fun x y=>{x with Desc:=y}):=bf (am al rfl) (fun _ _=>rfl)
def KX: ∀S,kA.rc S [.int .i64 0,.bool false] ((⟨(0:Int),false⟩:yB)):=fun _=>⟨[.int .i64 0],[.bool false],rfl,rfl,rfl⟩
structure cG where
 Selects:(List bP)
 Names:(List dN)
 Kinds:(List Int)
 Order:(List yB)
 Limit:Int
 deriving DecidableEq,Inhabited
def cC:Rp cG:=f7 (br (dz bM) (br (dz rS) (br (dz (rI .i64)) (br (dz kA) (rI .i64))))) (fun x=>(x.Selects,x.Names,x.Kinds,x.Order,x.Limit))
def DB:fW cC 0 (dz bM) (fun x=>x.Selects):=(bU bi)
def xX:fW cC 1 (dz rS) (fun x=>x.Names):=(bU (ap bi rfl))
def DA:fW cC 2 (dz (rI .i64)) (fun x=>x.Kinds):=(bU (ap (ap bi rfl) rfl))
def ml: ∀S,cC.rc S [.slice none 0 0,.slice none 0 0,.slice none 0 0,.slice none 0 0,.int .i64 0] ((⟨[],[],[],[],(0:Int)⟩:cG)):=fun _=>⟨[.slice none 0 0],[.slice none 0 0,.slice none 0 0,.slice none 0 0,.int .i64 0],rfl,⟨none,0,rfl,gP _,iM _,.inl rfl⟩,⟨[.slice none 0 0],[.slice none 0 0,.slice none 0 0,.int .i64 0],rfl,⟨none,0,rfl,gP _,iM _,.inl rfl⟩,⟨[.slice none 0 0],[.slice none 0 0,.int .i64 0],rfl,⟨none,0,rfl,gP _,iM _,.inl rfl⟩,⟨[.slice none 0 0],[.int .i64 0],rfl,⟨none,0,rfl,gP _,iM _,.inl rfl⟩,rfl⟩⟩⟩⟩
structure OS where
 c:aY
 sources:(List fD)
 out:bP
 deriving DecidableEq,Inhabited
structure yx where
 Tables:Value
def eZ:Rp yx:=f7 rV (fun x=>(x.Tables))
def lb:fW eZ 0 rV (fun x=>x.Tables):=bi
def xr:dk eZ 0 rV (fun x y=>{x with Tables:=y}):=bf al (fun _ _=>rfl)
def gm(y:aY)(v0:Value):yx:=⟨v0⟩
def tG: ∀S,eZ.rc S [.slice none 0 0] (gm ((⟨[]⟩:aY)) (M none 0 0)):=fun _=>⟨rfl,rfl⟩
structure Cz where
 Selects:Value
 Keys:(List tv)
 Limit:Int
def fy:Rp Cz:=f7 (br rV (br (dz gk) (rI .i64))) (fun x=>(x.Selects,x.Keys,x.Limit))
def ux:fW fy 0 rV (fun x=>x.Selects):=(bU bi)
def Aw:dk fy 1 (dz gk) (fun x y=>{x with Keys:=y}):=bf (am bR rfl) (fun _ _=>rfl)
def gB(y:bD)(v0:Value):Cz:=⟨v0,y.Keys,y.Limit⟩
structure Mn where
 Selects:Value
 Keys:Value
 Limit:Int
structure uQ where
 Selects:Value
 Names:(List dN)
 Kinds:Value
 Order:Value
 Limit:Int
def bL:Rp uQ:=f7 (br rV (br (dz rS) (br rV (br rV (rI .i64))))) (fun x=>(x.Selects,x.Names,x.Kinds,x.Order,x.Limit))
def vu:fW bL 0 rV (fun x=>x.Selects):=(bU bi)
def vt:fW bL 1 (dz rS) (fun x=>x.Names):=(bU (ap bi rfl))
def vd:dk bL 1 (dz rS) (fun x y=>{x with Names:=y}):=bf (am bR rfl) (fun _ _=>rfl)
def vr:fW bL 2 rV (fun x=>x.Kinds):=(bU (ap (ap bi rfl) rfl))
def vq:fW bL 3 rV (fun x=>x.Order):=(bU (ap (ap (ap bi rfl) rfl) rfl))
def vc:dk bL 4 (rI .i64) (fun x y=>{x with Limit:=y}):=bf (am (am (am (am al rfl) rfl) rfl) rfl) (fun _ _=>rfl)
def cA(y:cG)(v0:Value)(v2:Value)(v3:Value):uQ:=⟨v0,y.Names,v2,v3,y.Limit⟩
def qA: ∀S,bL.rc S [.slice none 0 0,.slice none 0 0,.slice none 0 0,.slice none 0 0,.int .i64 0] (cA ((⟨[],[],[],[],(0:Int)⟩:cG)) (M none 0 0) (M none 0 0) (M none 0 0)):=fun _=>⟨[.slice none 0 0],[.slice none 0 0,.slice none 0 0,.slice none 0 0,.int .i64 0],rfl,⟨rfl,rfl⟩,⟨[.slice none 0 0],[.slice none 0 0,.slice none 0 0,.int .i64 0],rfl,⟨none,0,rfl,gP _,iM _,.inl rfl⟩,⟨[.slice none 0 0],[.slice none 0 0,.int .i64 0],rfl,⟨rfl,rfl⟩,⟨[.slice none 0 0],[.int .i64 0],rfl,⟨rfl,rfl⟩,rfl⟩⟩⟩⟩
structure Mo where
 Selects:Value
 Names:(List dN)
 Kinds:(List Int)
 Order:Value
 Limit:Int
structure Fj where
 Nodes:Value
def gQ:Rp Fj:=f7 rV (fun x=>(x.Nodes))
def wc:fW gQ 0 rV (fun x=>x.Nodes):=bi
def BK:dk gQ 0 rV (fun x y=>{x with Nodes:=y}):=bf al (fun _ _=>rfl)
def i8(y:cD)(v0:Value):Fj:=⟨v0⟩
def y5: ∀S,gQ.rc S [.slice none 0 0] (i8 ((⟨[]⟩:cD)) (M none 0 0)):=fun _=>⟨rfl,rfl⟩
structure zY where
 Distinct:Bool
 Star:Bool
 Items:Value
 From:fD
 Joins:(List kN)
 Where:cD
 Having:cD
 Group:(List iK)
def v6:Rp zY:=f7 (br rB (br rB (br rV (br eT (br (dz d7) (br bh (br bh (dz dS)))))))) (fun x=>(x.Distinct,x.Star,x.Items,x.From,x.Joins,x.Where,x.Having,x.Group))
def wa(y:aJ)(v2:Value):zY:=⟨y.Distinct,y.Star,v2,y.From,y.Joins,y.Where,y.Having,y.Group⟩
structure wr where
 Distinct:Bool
 Star:Bool
 Items:Value
 From:fD
 Joins:Value
 Where:cD
 Having:cD
 Group:(List iK)
def cL:Rp wr:=f7 (br rB (br rB (br rV (br eT (br rV (br bh (br bh (dz dS)))))))) (fun x=>(x.Distinct,x.Star,x.Items,x.From,x.Joins,x.Where,x.Having,x.Group))
def ql:fW cL 2 rV (fun x=>x.Items):=(bU (ap (ap bi rfl) rfl))
def qk:fW cL 5 rV (fun x=>x.Joins):=(bU (ap (ap (ap (ap bi rfl) rfl) rfl) rfl))
def wL:fW cL 6 bh (fun x=>x.Where):=(bU (ap (ap (ap (ap (ap bi rfl) rfl) rfl) rfl) rfl))
def wG:dk cL 6 bh (fun x y=>{x with Where:=y}):=bf (am (am (am (am (am bR rfl) rfl) rfl) rfl) rfl) (fun _ _=>rfl)
def wK:fW cL 7 bh (fun x=>x.Having):=(bU (ap (ap (ap (ap (ap (ap bi rfl) rfl) rfl) rfl) rfl) rfl))
def wF:dk cL 7 bh (fun x y=>{x with Having:=y}):=bf (am (am (am (am (am (am bR rfl) rfl) rfl) rfl) rfl) rfl) (fun _ _=>rfl)
def wE:dk cL 8 (dz dS) (fun x y=>{x with Group:=y}):=bf (am (am (am (am (am (am (am al rfl) rfl) rfl) rfl) rfl) rfl) rfl) (fun _ _=>rfl)
def eG(y:aJ)(v2:Value)(v4:Value):wr:=⟨y.Distinct,y.Star,v2,y.From,v4,y.Where,y.Having,y.Group⟩
def yJ: ∀S,cL.rc S [.bool false,.bool false,.slice none 0 0,.string ⟨#[]⟩,.string ⟨#[]⟩,.slice none 0 0,.slice none 0 0,.slice none 0 0,.slice none 0 0] (eG ((⟨false,false,[],(⟨[],[]⟩:fD),[],(⟨[]⟩:cD),(⟨[]⟩:cD),[]⟩:aJ)) (M none 0 0) (M none 0 0)):=fun _=>⟨[.bool false],[.bool false,.slice none 0 0,.string ⟨#[]⟩,.string ⟨#[]⟩,.slice none 0 0,.slice none 0 0,.slice none 0 0,.slice none 0 0],rfl,rfl,⟨[.bool false],[.slice none 0 0,.string ⟨#[]⟩,.string ⟨#[]⟩,.slice none 0 0,.slice none 0 0,.slice none 0 0,.slice none 0 0],rfl,rfl,⟨[.slice none 0 0],[.string ⟨#[]⟩,.string ⟨#[]⟩,.slice none 0 0,.slice none 0 0,.slice none 0 0,.slice none 0 0],rfl,⟨rfl,rfl⟩,⟨[.string ⟨#[]⟩,.string ⟨#[]⟩],[.slice none 0 0,.slice none 0 0,.slice none 0 0,.slice none 0 0],rfl,rm _,⟨[.slice none 0 0],[.slice none 0 0,.slice none 0 0,.slice none 0 0],rfl,⟨rfl,rfl⟩,⟨[.slice none 0 0],[.slice none 0 0,.slice none 0 0],rfl,m7 _,⟨[.slice none 0 0],[.slice none 0 0],rfl,m7 _,⟨none,0,rfl,gP _,iM _,.inl rfl⟩⟩⟩⟩⟩⟩⟩⟩
structure OR where
 Nodes:Value
structure uP where
 Catalog:aY
 from_:aJ
 out:bP
 called:Value
 alone:Value
 behind:Value
 kinds:(List Int)
 groups:(List Int)
 at_:Int
def dR:Rp uP:=f7 (br bc (br aV (br bM (br rV (br rV (br rV (br (dz (rI .i64)) (br (dz (rI .i64)) (rI .i64))))))))) (fun x=>(x.Catalog,x.from_,x.out,x.called,x.alone,x.behind,x.kinds,x.groups,x.at_))
def vb:dk dR 0 bc (fun x y=>{x with Catalog:=y}):=bf bR (fun _ _=>rfl)
def va:dk dR 1 aV (fun x y=>{x with from_:=y}):=bf (am bR rfl) (fun _ _=>rfl)
def vp:fW dR 19 rV (fun x=>x.called):=(bU (ap (ap (ap bi rfl) rfl) rfl))
def u9:dk dR 19 rV (fun x y=>{x with called:=y}):=bf (am (am (am bR rfl) rfl) rfl) (fun _ _=>rfl)
def vo:fW dR 20 rV (fun x=>x.alone):=(bU (ap (ap (ap (ap bi rfl) rfl) rfl) rfl))
def u7:dk dR 20 rV (fun x y=>{x with alone:=y}):=bf (am (am (am (am bR rfl) rfl) rfl) rfl) (fun _ _=>rfl)
def vn:fW dR 21 rV (fun x=>x.behind):=(bU (ap (ap (ap (ap (ap bi rfl) rfl) rfl) rfl) rfl))
def u6:dk dR 21 rV (fun x y=>{x with behind:=y}):=bf (am (am (am (am (am bR rfl) rfl) rfl) rfl) rfl) (fun _ _=>rfl)
def k9(y:an)(v3:Value)(v4:Value)(v5:Value):uP:=⟨y.Catalog,y.from_,y.out,v3,v4,v5,y.kinds,y.groups,y.at_⟩
def xg: ∀S,dR.rc S [.slice none 0 0,.bool false,.bool false,.slice none 0 0,.string ⟨#[]⟩,.string ⟨#[]⟩,.slice none 0 0,.slice none 0 0,.slice none 0 0,.slice none 0 0,.slice none 0 0,.slice none 0 0,.slice none 0 0,.slice none 0 0,.bool false,.bool false,.slice none 0 0,.slice none 0 0,.slice none 0 0,.map none,.map none,.map none,.slice none 0 0,.slice none 0 0,.int .i64 0] (k9 ((⟨(⟨[]⟩:aY),(⟨false,false,[],(⟨[],[]⟩:fD),[],(⟨[]⟩:cD),(⟨[]⟩:cD),[]⟩:aJ),(⟨[],[],(⟨[]⟩:ca),(⟨[]⟩:ca),false,false,[],[],[]⟩:bP),[],[],[],[],[],(0:Int)⟩:an)) (.map none) (.map none) (.map none)):=fun _=>⟨[.slice none 0 0],[.bool false,.bool false,.slice none 0 0,.string ⟨#[]⟩,.string ⟨#[]⟩,.slice none 0 0,.slice none 0 0,.slice none 0 0,.slice none 0 0,.slice none 0 0,.slice none 0 0,.slice none 0 0,.slice none 0 0,.bool false,.bool false,.slice none 0 0,.slice none 0 0,.slice none 0 0,.map none,.map none,.map none,.slice none 0 0,.slice none 0 0,.int .i64 0],rfl,lH _,⟨[.bool false,.bool false,.slice none 0 0,.string ⟨#[]⟩,.string ⟨#[]⟩,.slice none 0 0,.slice none 0 0,.slice none 0 0,.slice none 0 0],[.slice none 0 0,.slice none 0 0,.slice none 0 0,.slice none 0 0,.bool false,.bool false,.slice none 0 0,.slice none 0 0,.slice none 0 0,.map none,.map none,.map none,.slice none 0 0,.slice none 0 0,.int .i64 0],rfl,rn _,⟨[.slice none 0 0,.slice none 0 0,.slice none 0 0,.slice none 0 0,.bool false,.bool false,.slice none 0 0,.slice none 0 0,.slice none 0 0],[.map none,.map none,.map none,.slice none 0 0,.slice none 0 0,.int .i64 0],rfl,xh _,⟨[.map none],[.map none,.map none,.slice none 0 0,.slice none 0 0,.int .i64 0],rfl,⟨rfl,rfl⟩,⟨[.map none],[.map none,.slice none 0 0,.slice none 0 0,.int .i64 0],rfl,⟨rfl,rfl⟩,⟨[.map none],[.slice none 0 0,.slice none 0 0,.int .i64 0],rfl,⟨rfl,rfl⟩,⟨[.slice none 0 0],[.slice none 0 0,.int .i64 0],rfl,⟨none,0,rfl,gP _,iM _,.inl rfl⟩,⟨[.slice none 0 0],[.int .i64 0],rfl,⟨none,0,rfl,gP _,iM _,.inl rfl⟩,rfl⟩⟩⟩⟩⟩⟩⟩⟩
def uG{S:SH}{cs:List Value}{y:aY}{v0:Value}{xs0:(List bv)}(k0:(dz bW).rc S [v0] xs0)(h:eZ.rc S cs (gm y v0)):bc.rc S cs ((⟨xs0⟩:aY)):=by
 have h0:=h
 exact(by rw [h0.1];exact k0)
def wN{S:SH}{cs:List Value}{y:bD}{v0:Value}{xs0:(List aJ)}(k0:(dz aV).rc S [v0] xs0)(h:fy.rc S cs (gB y v0)):bH.rc S cs ((⟨xs0,y.Keys,y.Limit⟩:bD)):=by
 obtain⟨a0,b0,e0,h0,a1,b1,e1,H,J⟩:=h
 exact⟨a0,b0,e0,(by rw [h0.1];exact k0),a1,b1,e1,H,J⟩
def sl{S:SH}{cs:List Value}{y:cG}{v0:Value}{v2:Value}{v3:Value}{xs0:(List bP)}(k0:(dz bM).rc S [v0] xs0){xs2:(List Int)}(k2:(dz (rI .i64)).rc S [v2] xs2){xs3:(List yB)}(k3:(dz kA).rc S [v3] xs3)(h:bL.rc S cs (cA y v0 v2 v3)):cC.rc S cs ((⟨xs0,y.Names,xs2,xs3,y.Limit⟩:cG)):=by
 obtain⟨a0,b0,e0,h0,a1,b1,e1,H,a2,b2,e2,J,a3,b3,e3,h3,h4⟩:=h
 exact⟨a0,b0,e0,(by rw [h0.1];exact k0),a1,b1,e1,H,a2,b2,e2,(by rw [J.1];exact k2),a3,b3,e3,(by rw [h3.1];exact k3),h4⟩
def yj{S:SH}{cs:List Value}{y:cD}{v0:Value}{xs0:(List dZ)}(k0:(dz cg).rc S [v0] xs0)(h:gQ.rc S cs (i8 y v0)):bh.rc S cs ((⟨xs0⟩:cD)):=by
 have h0:=h
 exact(by rw [h0.1];exact k0)
def tf{S:SH}{cs:List Value}{y:aJ}{v2:Value}{v4:Value}{xs2:(List er)}(k2:(dz cV).rc S [v2] xs2){xs4:(List kN)}(k4:(dz d7).rc S [v4] xs4)(h:cL.rc S cs (eG y v2 v4)):aV.rc S cs ((⟨y.Distinct,y.Star,xs2,y.From,xs4,y.Where,y.Having,y.Group⟩:aJ)):=by
 obtain⟨a0,b0,e0,h0,a1,b1,e1,H,a2,b2,e2,J,a3,b3,e3,h3,a4,b4,e4,h4,a5,b5,e5,h5,a6,b6,e6,h6,h7⟩:=h
 exact⟨a0,b0,e0,h0,a1,b1,e1,H,a2,b2,e2,(by rw [J.1];exact k2),a3,b3,e3,h3,a4,b4,e4,(by rw [h4.1];exact k4),a5,b5,e5,h5,a6,b6,e6,h6,h7⟩
def sk{S:SH}{cs:List Value}{y:an}{v3:Value}{v4:Value}{v5:Value}{xs3:(List (dN×Bool))}(k3:(FZ:Rp (List (dN×Bool))).rc S [v3] xs3){xs4:(List (dN×(List Int)))}(k4:(FZ:Rp (List (dN×(List Int)))).rc S [v4] xs4){xs5:(List ((dN×dN)×Int))}(k5:(FZ:Rp (List ((dN×dN)×Int))).rc S [v5] xs5)(h:dR.rc S cs (k9 y v3 v4 v5)):aq.rc S cs ((⟨y.Catalog,y.from_,y.out,xs3,xs4,xs5,y.kinds,y.groups,y.at_⟩:an)):=by
 obtain⟨a0,b0,e0,h0,a1,b1,e1,H,a2,b2,e2,J,a3,b3,e3,h3,a4,b4,e4,h4,a5,b5,e5,h5,a6,b6,e6,h6,a7,b7,e7,h7,h8⟩:=h
 exact⟨a0,b0,e0,h0,a1,b1,e1,H,a2,b2,e2,J,a3,b3,e3,(by rw [h3.1];exact k3),a4,b4,e4,(by rw [h4.1];exact k4),a5,b5,e5,(by rw [h5.1];exact k5),a6,b6,e6,h6,a7,b7,e7,h7,h8⟩
def sR(y:bD)(v:Value):mE bH fy 0 rV (y) v (gB y v):=rq (rr (fx rfl) rfl) rfl
def mV(y:cG)(v2:Value)(v3:Value)(u:Value)(v:Value):mE bL bL 0 rV (cA y u v2 v3) v (cA y v v2 v3):=rq (rr (fx rfl) rfl) rfl
def mU(y:cG)(v0:Value)(v3:Value)(u:Value)(v:Value):mE bL bL 2 rV (cA y v0 u v3) v (cA y v0 v v3):=rq (kX (kX (rr (fx rfl) rfl) rfl) rfl) rfl
def mT(y:cG)(v0:Value)(v2:Value)(u:Value)(v:Value):mE bL bL 3 rV (cA y v0 v2 u) v (cA y v0 v2 v):=rq (kX (kX (kX (rr (fx rfl) rfl) rfl) rfl) rfl) rfl
def sh(y:aJ)(v:Value):mE aV v6 2 rV (y) v (wa y v):=rq (kX (kX (rr (fx rfl) rfl) rfl) rfl) rfl
def pe(y:aJ)(v2:Value)(v:Value):mE v6 cL 5 rV (wa y v2) v (eG y v2 v):=rq (kX (kX (kX (kX (rr (fx rfl) rfl) rfl) rfl) rfl) rfl) rfl
def ci(b:Nat)(x:an)(i:OI):List OE:=[bx (rH aq [(10,M (i.h 0).1 (i.h 0).2 x.out.Tables.length),(11,M (i.h 1).1 (i.h 1).2 x.out.Joins.length),(16,M (i.h 2).1 (i.h 2).2 x.out.Keys.length),(17,M (i.h 3).1 (i.h 3).2 x.out.Aggs.length),(18,M (i.h 4).1 (i.h 4).2 x.out.Items.length),(22,M (i.h 5).1 (i.h 5).2 x.kinds.length),(23,M (i.h 6).1 (i.h 6).2 x.groups.length),(19,ak (i.h 7).2),(20,ak (i.h 8).2),(21,ak (i.h 9).2)]) 127 b x,Z (rI .i64) 3 (i.h 0).1 (i.h 0).2 x.out.Tables,Z aD 71 (i.h 1).1 (i.h 1).2 x.out.Joins,Z (rI .i64) 3 (i.h 2).1 (i.h 2).2 x.out.Keys,Z aN 73 (i.h 3).1 (i.h 3).2 x.out.Aggs,Z aa 62 (i.h 4).1 (i.h 4).2 x.out.Items,Z (rI .i64) 3 (i.h 5).1 (i.h 5).2 x.kinds,Z (rI .i64) 3 (i.h 6).1 (i.h 6).2 x.groups,bj (AJ (fun y:Bool=>V rB y)) cR (i.h 7).2 none (i.oss 0) x.called,bj (KC (rI .i64) 3) cR (i.h 8).2 none (i.oss 1) x.alone,da (fun y:Int=>V (rI .i64) y) gb (i.h 9).2 x.behind]
def M4{h1:HL}{y:an}{v3 v4 v5:Value}{S:SH}{u:Value}(h:(V (rH dR h1) (k9 y v3 v4 v5)).p S u)(k3:v3.oneCell' =true)(k4:v4.oneCell' =true)(k5:v5.oneCell' =true):(V (rH aq (h1++[(19,v3),(20,v4),(21,v5)])) (⟨y.Catalog,y.from_,y.out,[],[],[],y.kinds,y.groups,y.at_⟩:an)).p S u:=by
 obtain⟨cs,e,H,J⟩:=h
 refine⟨cs,e,sk ⟨_,rfl,k3⟩ ⟨_,rfl,k4⟩ ⟨_,rfl,k5⟩ H,fun p hp=>?_⟩
 rcases List.mem_append.1 hp with hp|hp
 ·exact J p hp
 ·simp only [mJ,List.not_mem_nil,or_false]at hp
  rcases hp with rfl|rfl|rfl
  ·have h3:=HC vp H
   exact h3
  ·have h3:=HC vo H
   exact h3
  ·have h3:=HC vn H
   exact h3
def Lx:(List z1):=[(⟨[98,111,111,108],(1:Int)⟩:z1),(⟨[105,110,116],(2:Int)⟩:z1),(⟨[116,101,120,116],(3:Int)⟩:z1)]
def gm0:((0:Nat),([.string ⟨([98,111,111,108]:List UInt8).toArray⟩,.int .i64 (1),.string ⟨([105,110,116]:List UInt8).toArray⟩,.int .i64 (2),.string ⟨([116,101,120,116]:List UInt8).toArray⟩,.int .i64 (3)]:List Value))∈glob:=by simp [glob]
def gr0: ∀S,(lC rs 3).rc S ([.string ⟨([98,111,111,108]:List UInt8).toArray⟩,.int .i64 (1),.string ⟨([105,110,116]:List UInt8).toArray⟩,.int .i64 (2),.string ⟨([116,101,120,116]:List UInt8).toArray⟩,.int .i64 (3)]:List Value) Lx:=fun _=>⟨rfl,⟨[.string ⟨([98,111,111,108]:List UInt8).toArray⟩,.int .i64 (1)],[.string ⟨([105,110,116]:List UInt8).toArray⟩,.int .i64 (2),.string ⟨([116,101,120,116]:List UInt8).toArray⟩,.int .i64 (3)],rfl,⟨[.string ⟨([98,111,111,108]:List UInt8).toArray⟩],[.int .i64 (1)],rfl,rfl,rfl⟩,⟨[.string ⟨([105,110,116]:List UInt8).toArray⟩,.int .i64 (2)],[.string ⟨([116,101,120,116]:List UInt8).toArray⟩,.int .i64 (3)],rfl,⟨[.string ⟨([105,110,116]:List UInt8).toArray⟩],[.int .i64 (2)],rfl,rfl,rfl⟩,⟨[.string ⟨([116,101,120,116]:List UInt8).toArray⟩,.int .i64 (3)],[],rfl,⟨[.string ⟨([116,101,120,116]:List UInt8).toArray⟩],[.int .i64 (3)],rfl,rfl,rfl⟩,(rfl:_=[])⟩⟩⟩⟩
def Nc:(List dN):=[[83,69,76,69,67,84],[68,73,83,84,73,78,67,84],[70,82,79,77],[76,69,70,84],[74,79,73,78],[79,78],[87,72,69,82,69],[71,82,79,85,80],[66,89],[72,65,86,73,78,71],[85,78,73,79,78],[65,76,76],[79,82,68,69,82],[76,73,77,73,84],[65,83,67],[68,69,83,67],[65,83],[65,78,68],[79,82],[78,79,84],[73,83],[78,85,76,76],[84,82,85,69],[70,65,76,83,69],[67,79,85,78,84],[83,85,77],[77,73,78],[77,65,88]]
def gm1:((1:Nat),([.string ⟨([83,69,76,69,67,84]:List UInt8).toArray⟩,.string ⟨([68,73,83,84,73,78,67,84]:List UInt8).toArray⟩,.string ⟨([70,82,79,77]:List UInt8).toArray⟩,.string ⟨([76,69,70,84]:List UInt8).toArray⟩,.string ⟨([74,79,73,78]:List UInt8).toArray⟩,.string ⟨([79,78]:List UInt8).toArray⟩,.string ⟨([87,72,69,82,69]:List UInt8).toArray⟩,.string ⟨([71,82,79,85,80]:List UInt8).toArray⟩,.string ⟨([66,89]:List UInt8).toArray⟩,.string ⟨([72,65,86,73,78,71]:List UInt8).toArray⟩,.string ⟨([85,78,73,79,78]:List UInt8).toArray⟩,.string ⟨([65,76,76]:List UInt8).toArray⟩,.string ⟨([79,82,68,69,82]:List UInt8).toArray⟩,.string ⟨([76,73,77,73,84]:List UInt8).toArray⟩,.string ⟨([65,83,67]:List UInt8).toArray⟩,.string ⟨([68,69,83,67]:List UInt8).toArray⟩,.string ⟨([65,83]:List UInt8).toArray⟩,.string ⟨([65,78,68]:List UInt8).toArray⟩,.string ⟨([79,82]:List UInt8).toArray⟩,.string ⟨([78,79,84]:List UInt8).toArray⟩,.string ⟨([73,83]:List UInt8).toArray⟩,.string ⟨([78,85,76,76]:List UInt8).toArray⟩,.string ⟨([84,82,85,69]:List UInt8).toArray⟩,.string ⟨([70,65,76,83,69]:List UInt8).toArray⟩,.string ⟨([67,79,85,78,84]:List UInt8).toArray⟩,.string ⟨([83,85,77]:List UInt8).toArray⟩,.string ⟨([77,73,78]:List UInt8).toArray⟩,.string ⟨([77,65,88]:List UInt8).toArray⟩]:List Value))∈glob:=by simp [glob]
def gr1: ∀S,(lC rS 28).rc S ([.string ⟨([83,69,76,69,67,84]:List UInt8).toArray⟩,.string ⟨([68,73,83,84,73,78,67,84]:List UInt8).toArray⟩,.string ⟨([70,82,79,77]:List UInt8).toArray⟩,.string ⟨([76,69,70,84]:List UInt8).toArray⟩,.string ⟨([74,79,73,78]:List UInt8).toArray⟩,.string ⟨([79,78]:List UInt8).toArray⟩,.string ⟨([87,72,69,82,69]:List UInt8).toArray⟩,.string ⟨([71,82,79,85,80]:List UInt8).toArray⟩,.string ⟨([66,89]:List UInt8).toArray⟩,.string ⟨([72,65,86,73,78,71]:List UInt8).toArray⟩,.string ⟨([85,78,73,79,78]:List UInt8).toArray⟩,.string ⟨([65,76,76]:List UInt8).toArray⟩,.string ⟨([79,82,68,69,82]:List UInt8).toArray⟩,.string ⟨([76,73,77,73,84]:List UInt8).toArray⟩,.string ⟨([65,83,67]:List UInt8).toArray⟩,.string ⟨([68,69,83,67]:List UInt8).toArray⟩,.string ⟨([65,83]:List UInt8).toArray⟩,.string ⟨([65,78,68]:List UInt8).toArray⟩,.string ⟨([79,82]:List UInt8).toArray⟩,.string ⟨([78,79,84]:List UInt8).toArray⟩,.string ⟨([73,83]:List UInt8).toArray⟩,.string ⟨([78,85,76,76]:List UInt8).toArray⟩,.string ⟨([84,82,85,69]:List UInt8).toArray⟩,.string ⟨([70,65,76,83,69]:List UInt8).toArray⟩,.string ⟨([67,79,85,78,84]:List UInt8).toArray⟩,.string ⟨([83,85,77]:List UInt8).toArray⟩,.string ⟨([77,73,78]:List UInt8).toArray⟩,.string ⟨([77,65,88]:List UInt8).toArray⟩]:List Value) Nc:=fun _=>⟨rfl,⟨[.string ⟨([83,69,76,69,67,84]:List UInt8).toArray⟩],[.string ⟨([68,73,83,84,73,78,67,84]:List UInt8).toArray⟩,.string ⟨([70,82,79,77]:List UInt8).toArray⟩,.string ⟨([76,69,70,84]:List UInt8).toArray⟩,.string ⟨([74,79,73,78]:List UInt8).toArray⟩,.string ⟨([79,78]:List UInt8).toArray⟩,.string ⟨([87,72,69,82,69]:List UInt8).toArray⟩,.string ⟨([71,82,79,85,80]:List UInt8).toArray⟩,.string ⟨([66,89]:List UInt8).toArray⟩,.string ⟨([72,65,86,73,78,71]:List UInt8).toArray⟩,.string ⟨([85,78,73,79,78]:List UInt8).toArray⟩,.string ⟨([65,76,76]:List UInt8).toArray⟩,.string ⟨([79,82,68,69,82]:List UInt8).toArray⟩,.string ⟨([76,73,77,73,84]:List UInt8).toArray⟩,.string ⟨([65,83,67]:List UInt8).toArray⟩,.string ⟨([68,69,83,67]:List UInt8).toArray⟩,.string ⟨([65,83]:List UInt8).toArray⟩,.string ⟨([65,78,68]:List UInt8).toArray⟩,.string ⟨([79,82]:List UInt8).toArray⟩,.string ⟨([78,79,84]:List UInt8).toArray⟩,.string ⟨([73,83]:List UInt8).toArray⟩,.string ⟨([78,85,76,76]:List UInt8).toArray⟩,.string ⟨([84,82,85,69]:List UInt8).toArray⟩,.string ⟨([70,65,76,83,69]:List UInt8).toArray⟩,.string ⟨([67,79,85,78,84]:List UInt8).toArray⟩,.string ⟨([83,85,77]:List UInt8).toArray⟩,.string ⟨([77,73,78]:List UInt8).toArray⟩,.string ⟨([77,65,88]:List UInt8).toArray⟩],rfl,rfl,⟨[.string ⟨([68,73,83,84,73,78,67,84]:List UInt8).toArray⟩],[.string ⟨([70,82,79,77]:List UInt8).toArray⟩,.string ⟨([76,69,70,84]:List UInt8).toArray⟩,.string ⟨([74,79,73,78]:List UInt8).toArray⟩,.string ⟨([79,78]:List UInt8).toArray⟩,.string ⟨([87,72,69,82,69]:List UInt8).toArray⟩,.string ⟨([71,82,79,85,80]:List UInt8).toArray⟩,.string ⟨([66,89]:List UInt8).toArray⟩,.string ⟨([72,65,86,73,78,71]:List UInt8).toArray⟩,.string ⟨([85,78,73,79,78]:List UInt8).toArray⟩,.string ⟨([65,76,76]:List UInt8).toArray⟩,.string ⟨([79,82,68,69,82]:List UInt8).toArray⟩,.string ⟨([76,73,77,73,84]:List UInt8).toArray⟩,.string ⟨([65,83,67]:List UInt8).toArray⟩,.string ⟨([68,69,83,67]:List UInt8).toArray⟩,.string ⟨([65,83]:List UInt8).toArray⟩,.string ⟨([65,78,68]:List UInt8).toArray⟩,.string ⟨([79,82]:List UInt8).toArray⟩,.string ⟨([78,79,84]:List UInt8).toArray⟩,.string ⟨([73,83]:List UInt8).toArray⟩,.string ⟨([78,85,76,76]:List UInt8).toArray⟩,.string ⟨([84,82,85,69]:List UInt8).toArray⟩,.string ⟨([70,65,76,83,69]:List UInt8).toArray⟩,.string ⟨([67,79,85,78,84]:List UInt8).toArray⟩,.string ⟨([83,85,77]:List UInt8).toArray⟩,.string ⟨([77,73,78]:List UInt8).toArray⟩,.string ⟨([77,65,88]:List UInt8).toArray⟩],rfl,rfl,⟨[.string ⟨([70,82,79,77]:List UInt8).toArray⟩],[.string ⟨([76,69,70,84]:List UInt8).toArray⟩,.string ⟨([74,79,73,78]:List UInt8).toArray⟩,.string ⟨([79,78]:List UInt8).toArray⟩,.string ⟨([87,72,69,82,69]:List UInt8).toArray⟩,.string ⟨([71,82,79,85,80]:List UInt8).toArray⟩,.string ⟨([66,89]:List UInt8).toArray⟩,.string ⟨([72,65,86,73,78,71]:List UInt8).toArray⟩,.string ⟨([85,78,73,79,78]:List UInt8).toArray⟩,.string ⟨([65,76,76]:List UInt8).toArray⟩,.string ⟨([79,82,68,69,82]:List UInt8).toArray⟩,.string ⟨([76,73,77,73,84]:List UInt8).toArray⟩,.string ⟨([65,83,67]:List UInt8).toArray⟩,.string ⟨([68,69,83,67]:List UInt8).toArray⟩,.string ⟨([65,83]:List UInt8).toArray⟩,.string ⟨([65,78,68]:List UInt8).toArray⟩,.string ⟨([79,82]:List UInt8).toArray⟩,.string ⟨([78,79,84]:List UInt8).toArray⟩,.string ⟨([73,83]:List UInt8).toArray⟩,.string ⟨([78,85,76,76]:List UInt8).toArray⟩,.string ⟨([84,82,85,69]:List UInt8).toArray⟩,.string ⟨([70,65,76,83,69]:List UInt8).toArray⟩,.string ⟨([67,79,85,78,84]:List UInt8).toArray⟩,.string ⟨([83,85,77]:List UInt8).toArray⟩,.string ⟨([77,73,78]:List UInt8).toArray⟩,.string ⟨([77,65,88]:List UInt8).toArray⟩],rfl,rfl,⟨[.string ⟨([76,69,70,84]:List UInt8).toArray⟩],[.string ⟨([74,79,73,78]:List UInt8).toArray⟩,.string ⟨([79,78]:List UInt8).toArray⟩,.string ⟨([87,72,69,82,69]:List UInt8).toArray⟩,.string ⟨([71,82,79,85,80]:List UInt8).toArray⟩,.string ⟨([66,89]:List UInt8).toArray⟩,.string ⟨([72,65,86,73,78,71]:List UInt8).toArray⟩,.string ⟨([85,78,73,79,78]:List UInt8).toArray⟩,.string ⟨([65,76,76]:List UInt8).toArray⟩,.string ⟨([79,82,68,69,82]:List UInt8).toArray⟩,.string ⟨([76,73,77,73,84]:List UInt8).toArray⟩,.string ⟨([65,83,67]:List UInt8).toArray⟩,.string ⟨([68,69,83,67]:List UInt8).toArray⟩,.string ⟨([65,83]:List UInt8).toArray⟩,.string ⟨([65,78,68]:List UInt8).toArray⟩,.string ⟨([79,82]:List UInt8).toArray⟩,.string ⟨([78,79,84]:List UInt8).toArray⟩,.string ⟨([73,83]:List UInt8).toArray⟩,.string ⟨([78,85,76,76]:List UInt8).toArray⟩,.string ⟨([84,82,85,69]:List UInt8).toArray⟩,.string ⟨([70,65,76,83,69]:List UInt8).toArray⟩,.string ⟨([67,79,85,78,84]:List UInt8).toArray⟩,.string ⟨([83,85,77]:List UInt8).toArray⟩,.string ⟨([77,73,78]:List UInt8).toArray⟩,.string ⟨([77,65,88]:List UInt8).toArray⟩],rfl,rfl,⟨[.string ⟨([74,79,73,78]:List UInt8).toArray⟩],[.string ⟨([79,78]:List UInt8).toArray⟩,.string ⟨([87,72,69,82,69]:List UInt8).toArray⟩,.string ⟨([71,82,79,85,80]:List UInt8).toArray⟩,.string ⟨([66,89]:List UInt8).toArray⟩,.string ⟨([72,65,86,73,78,71]:List UInt8).toArray⟩,.string ⟨([85,78,73,79,78]:List UInt8).toArray⟩,.string ⟨([65,76,76]:List UInt8).toArray⟩,.string ⟨([79,82,68,69,82]:List UInt8).toArray⟩,.string ⟨([76,73,77,73,84]:List UInt8).toArray⟩,.string ⟨([65,83,67]:List UInt8).toArray⟩,.string ⟨([68,69,83,67]:List UInt8).toArray⟩,.string ⟨([65,83]:List UInt8).toArray⟩,.string ⟨([65,78,68]:List UInt8).toArray⟩,.string ⟨([79,82]:List UInt8).toArray⟩,.string ⟨([78,79,84]:List UInt8).toArray⟩,.string ⟨([73,83]:List UInt8).toArray⟩,.string ⟨([78,85,76,76]:List UInt8).toArray⟩,.string ⟨([84,82,85,69]:List UInt8).toArray⟩,.string ⟨([70,65,76,83,69]:List UInt8).toArray⟩,.string ⟨([67,79,85,78,84]:List UInt8).toArray⟩,.string ⟨([83,85,77]:List UInt8).toArray⟩,.string ⟨([77,73,78]:List UInt8).toArray⟩,.string ⟨([77,65,88]:List UInt8).toArray⟩],rfl,rfl,⟨[.string ⟨([79,78]:List UInt8).toArray⟩],[.string ⟨([87,72,69,82,69]:List UInt8).toArray⟩,.string ⟨([71,82,79,85,80]:List UInt8).toArray⟩,.string ⟨([66,89]:List UInt8).toArray⟩,.string ⟨([72,65,86,73,78,71]:List UInt8).toArray⟩,.string ⟨([85,78,73,79,78]:List UInt8).toArray⟩,.string ⟨([65,76,76]:List UInt8).toArray⟩,.string ⟨([79,82,68,69,82]:List UInt8).toArray⟩,.string ⟨([76,73,77,73,84]:List UInt8).toArray⟩,.string ⟨([65,83,67]:List UInt8).toArray⟩,.string ⟨([68,69,83,67]:List UInt8).toArray⟩,.string ⟨([65,83]:List UInt8).toArray⟩,.string ⟨([65,78,68]:List UInt8).toArray⟩,.string ⟨([79,82]:List UInt8).toArray⟩,.string ⟨([78,79,84]:List UInt8).toArray⟩,.string ⟨([73,83]:List UInt8).toArray⟩,.string ⟨([78,85,76,76]:List UInt8).toArray⟩,.string ⟨([84,82,85,69]:List UInt8).toArray⟩,.string ⟨([70,65,76,83,69]:List UInt8).toArray⟩,.string ⟨([67,79,85,78,84]:List UInt8).toArray⟩,.string ⟨([83,85,77]:List UInt8).toArray⟩,.string ⟨([77,73,78]:List UInt8).toArray⟩,.string ⟨([77,65,88]:List UInt8).toArray⟩],rfl,rfl,⟨[.string ⟨([87,72,69,82,69]:List UInt8).toArray⟩],[.string ⟨([71,82,79,85,80]:List UInt8).toArray⟩,.string ⟨([66,89]:List UInt8).toArray⟩,.string ⟨([72,65,86,73,78,71]:List UInt8).toArray⟩,.string ⟨([85,78,73,79,78]:List UInt8).toArray⟩,.string ⟨([65,76,76]:List UInt8).toArray⟩,.string ⟨([79,82,68,69,82]:List UInt8).toArray⟩,.string ⟨([76,73,77,73,84]:List UInt8).toArray⟩,.string ⟨([65,83,67]:List UInt8).toArray⟩,.string ⟨([68,69,83,67]:List UInt8).toArray⟩,.string ⟨([65,83]:List UInt8).toArray⟩,.string ⟨([65,78,68]:List UInt8).toArray⟩,.string ⟨([79,82]:List UInt8).toArray⟩,.string ⟨([78,79,84]:List UInt8).toArray⟩,.string ⟨([73,83]:List UInt8).toArray⟩,.string ⟨([78,85,76,76]:List UInt8).toArray⟩,.string ⟨([84,82,85,69]:List UInt8).toArray⟩,.string ⟨([70,65,76,83,69]:List UInt8).toArray⟩,.string ⟨([67,79,85,78,84]:List UInt8).toArray⟩,.string ⟨([83,85,77]:List UInt8).toArray⟩,.string ⟨([77,73,78]:List UInt8).toArray⟩,.string ⟨([77,65,88]:List UInt8).toArray⟩],rfl,rfl,⟨[.string ⟨([71,82,79,85,80]:List UInt8).toArray⟩],[.string ⟨([66,89]:List UInt8).toArray⟩,.string ⟨([72,65,86,73,78,71]:List UInt8).toArray⟩,.string ⟨([85,78,73,79,78]:List UInt8).toArray⟩,.string ⟨([65,76,76]:List UInt8).toArray⟩,.string ⟨([79,82,68,69,82]:List UInt8).toArray⟩,.string ⟨([76,73,77,73,84]:List UInt8).toArray⟩,.string ⟨([65,83,67]:List UInt8).toArray⟩,.string ⟨([68,69,83,67]:List UInt8).toArray⟩,.string ⟨([65,83]:List UInt8).toArray⟩,.string ⟨([65,78,68]:List UInt8).toArray⟩,.string ⟨([79,82]:List UInt8).toArray⟩,.string ⟨([78,79,84]:List UInt8).toArray⟩,.string ⟨([73,83]:List UInt8).toArray⟩,.string ⟨([78,85,76,76]:List UInt8).toArray⟩,.string ⟨([84,82,85,69]:List UInt8).toArray⟩,.string ⟨([70,65,76,83,69]:List UInt8).toArray⟩,.string ⟨([67,79,85,78,84]:List UInt8).toArray⟩,.string ⟨([83,85,77]:List UInt8).toArray⟩,.string ⟨([77,73,78]:List UInt8).toArray⟩,.string ⟨([77,65,88]:List UInt8).toArray⟩],rfl,rfl,⟨[.string ⟨([66,89]:List UInt8).toArray⟩],[.string ⟨([72,65,86,73,78,71]:List UInt8).toArray⟩,.string ⟨([85,78,73,79,78]:List UInt8).toArray⟩,.string ⟨([65,76,76]:List UInt8).toArray⟩,.string ⟨([79,82,68,69,82]:List UInt8).toArray⟩,.string ⟨([76,73,77,73,84]:List UInt8).toArray⟩,.string ⟨([65,83,67]:List UInt8).toArray⟩,.string ⟨([68,69,83,67]:List UInt8).toArray⟩,.string ⟨([65,83]:List UInt8).toArray⟩,.string ⟨([65,78,68]:List UInt8).toArray⟩,.string ⟨([79,82]:List UInt8).toArray⟩,.string ⟨([78,79,84]:List UInt8).toArray⟩,.string ⟨([73,83]:List UInt8).toArray⟩,.string ⟨([78,85,76,76]:List UInt8).toArray⟩,.string ⟨([84,82,85,69]:List UInt8).toArray⟩,.string ⟨([70,65,76,83,69]:List UInt8).toArray⟩,.string ⟨([67,79,85,78,84]:List UInt8).toArray⟩,.string ⟨([83,85,77]:List UInt8).toArray⟩,.string ⟨([77,73,78]:List UInt8).toArray⟩,.string ⟨([77,65,88]:List UInt8).toArray⟩],rfl,rfl,⟨[.string ⟨([72,65,86,73,78,71]:List UInt8).toArray⟩],[.string ⟨([85,78,73,79,78]:List UInt8).toArray⟩,.string ⟨([65,76,76]:List UInt8).toArray⟩,.string ⟨([79,82,68,69,82]:List UInt8).toArray⟩,.string ⟨([76,73,77,73,84]:List UInt8).toArray⟩,.string ⟨([65,83,67]:List UInt8).toArray⟩,.string ⟨([68,69,83,67]:List UInt8).toArray⟩,.string ⟨([65,83]:List UInt8).toArray⟩,.string ⟨([65,78,68]:List UInt8).toArray⟩,.string ⟨([79,82]:List UInt8).toArray⟩,.string ⟨([78,79,84]:List UInt8).toArray⟩,.string ⟨([73,83]:List UInt8).toArray⟩,.string ⟨([78,85,76,76]:List UInt8).toArray⟩,.string ⟨([84,82,85,69]:List UInt8).toArray⟩,.string ⟨([70,65,76,83,69]:List UInt8).toArray⟩,.string ⟨([67,79,85,78,84]:List UInt8).toArray⟩,.string ⟨([83,85,77]:List UInt8).toArray⟩,.string ⟨([77,73,78]:List UInt8).toArray⟩,.string ⟨([77,65,88]:List UInt8).toArray⟩],rfl,rfl,⟨[.string ⟨([85,78,73,79,78]:List UInt8).toArray⟩],[.string ⟨([65,76,76]:List UInt8).toArray⟩,.string ⟨([79,82,68,69,82]:List UInt8).toArray⟩,.string ⟨([76,73,77,73,84]:List UInt8).toArray⟩,.string ⟨([65,83,67]:List UInt8).toArray⟩,.string ⟨([68,69,83,67]:List UInt8).toArray⟩,.string ⟨([65,83]:List UInt8).toArray⟩,.string ⟨([65,78,68]:List UInt8).toArray⟩,.string ⟨([79,82]:List UInt8).toArray⟩,.string ⟨([78,79,84]:List UInt8).toArray⟩,.string ⟨([73,83]:List UInt8).toArray⟩,.string ⟨([78,85,76,76]:List UInt8).toArray⟩,.string ⟨([84,82,85,69]:List UInt8).toArray⟩,.string ⟨([70,65,76,83,69]:List UInt8).toArray⟩,.string ⟨([67,79,85,78,84]:List UInt8).toArray⟩,.string ⟨([83,85,77]:List UInt8).toArray⟩,.string ⟨([77,73,78]:List UInt8).toArray⟩,.string ⟨([77,65,88]:List UInt8).toArray⟩],rfl,rfl,⟨[.string ⟨([65,76,76]:List UInt8).toArray⟩],[.string ⟨([79,82,68,69,82]:List UInt8).toArray⟩,.string ⟨([76,73,77,73,84]:List UInt8).toArray⟩,.string ⟨([65,83,67]:List UInt8).toArray⟩,.string ⟨([68,69,83,67]:List UInt8).toArray⟩,.string ⟨([65,83]:List UInt8).toArray⟩,.string ⟨([65,78,68]:List UInt8).toArray⟩,.string ⟨([79,82]:List UInt8).toArray⟩,.string ⟨([78,79,84]:List UInt8).toArray⟩,.string ⟨([73,83]:List UInt8).toArray⟩,.string ⟨([78,85,76,76]:List UInt8).toArray⟩,.string ⟨([84,82,85,69]:List UInt8).toArray⟩,.string ⟨([70,65,76,83,69]:List UInt8).toArray⟩,.string ⟨([67,79,85,78,84]:List UInt8).toArray⟩,.string ⟨([83,85,77]:List UInt8).toArray⟩,.string ⟨([77,73,78]:List UInt8).toArray⟩,.string ⟨([77,65,88]:List UInt8).toArray⟩],rfl,rfl,⟨[.string ⟨([79,82,68,69,82]:List UInt8).toArray⟩],[.string ⟨([76,73,77,73,84]:List UInt8).toArray⟩,.string ⟨([65,83,67]:List UInt8).toArray⟩,.string ⟨([68,69,83,67]:List UInt8).toArray⟩,.string ⟨([65,83]:List UInt8).toArray⟩,.string ⟨([65,78,68]:List UInt8).toArray⟩,.string ⟨([79,82]:List UInt8).toArray⟩,.string ⟨([78,79,84]:List UInt8).toArray⟩,.string ⟨([73,83]:List UInt8).toArray⟩,.string ⟨([78,85,76,76]:List UInt8).toArray⟩,.string ⟨([84,82,85,69]:List UInt8).toArray⟩,.string ⟨([70,65,76,83,69]:List UInt8).toArray⟩,.string ⟨([67,79,85,78,84]:List UInt8).toArray⟩,.string ⟨([83,85,77]:List UInt8).toArray⟩,.string ⟨([77,73,78]:List UInt8).toArray⟩,.string ⟨([77,65,88]:List UInt8).toArray⟩],rfl,rfl,⟨[.string ⟨([76,73,77,73,84]:List UInt8).toArray⟩],[.string ⟨([65,83,67]:List UInt8).toArray⟩,.string ⟨([68,69,83,67]:List UInt8).toArray⟩,.string ⟨([65,83]:List UInt8).toArray⟩,.string ⟨([65,78,68]:List UInt8).toArray⟩,.string ⟨([79,82]:List UInt8).toArray⟩,.string ⟨([78,79,84]:List UInt8).toArray⟩,.string ⟨([73,83]:List UInt8).toArray⟩,.string ⟨([78,85,76,76]:List UInt8).toArray⟩,.string ⟨([84,82,85,69]:List UInt8).toArray⟩,.string ⟨([70,65,76,83,69]:List UInt8).toArray⟩,.string ⟨([67,79,85,78,84]:List UInt8).toArray⟩,.string ⟨([83,85,77]:List UInt8).toArray⟩,.string ⟨([77,73,78]:List UInt8).toArray⟩,.string ⟨([77,65,88]:List UInt8).toArray⟩],rfl,rfl,⟨[.string ⟨([65,83,67]:List UInt8).toArray⟩],[.string ⟨([68,69,83,67]:List UInt8).toArray⟩,.string ⟨([65,83]:List UInt8).toArray⟩,.string ⟨([65,78,68]:List UInt8).toArray⟩,.string ⟨([79,82]:List UInt8).toArray⟩,.string ⟨([78,79,84]:List UInt8).toArray⟩,.string ⟨([73,83]:List UInt8).toArray⟩,.string ⟨([78,85,76,76]:List UInt8).toArray⟩,.string ⟨([84,82,85,69]:List UInt8).toArray⟩,.string ⟨([70,65,76,83,69]:List UInt8).toArray⟩,.string ⟨([67,79,85,78,84]:List UInt8).toArray⟩,.string ⟨([83,85,77]:List UInt8).toArray⟩,.string ⟨([77,73,78]:List UInt8).toArray⟩,.string ⟨([77,65,88]:List UInt8).toArray⟩],rfl,rfl,⟨[.string ⟨([68,69,83,67]:List UInt8).toArray⟩],[.string ⟨([65,83]:List UInt8).toArray⟩,.string ⟨([65,78,68]:List UInt8).toArray⟩,.string ⟨([79,82]:List UInt8).toArray⟩,.string ⟨([78,79,84]:List UInt8).toArray⟩,.string ⟨([73,83]:List UInt8).toArray⟩,.string ⟨([78,85,76,76]:List UInt8).toArray⟩,.string ⟨([84,82,85,69]:List UInt8).toArray⟩,.string ⟨([70,65,76,83,69]:List UInt8).toArray⟩,.string ⟨([67,79,85,78,84]:List UInt8).toArray⟩,.string ⟨([83,85,77]:List UInt8).toArray⟩,.string ⟨([77,73,78]:List UInt8).toArray⟩,.string ⟨([77,65,88]:List UInt8).toArray⟩],rfl,rfl,⟨[.string ⟨([65,83]:List UInt8).toArray⟩],[.string ⟨([65,78,68]:List UInt8).toArray⟩,.string ⟨([79,82]:List UInt8).toArray⟩,.string ⟨([78,79,84]:List UInt8).toArray⟩,.string ⟨([73,83]:List UInt8).toArray⟩,.string ⟨([78,85,76,76]:List UInt8).toArray⟩,.string ⟨([84,82,85,69]:List UInt8).toArray⟩,.string ⟨([70,65,76,83,69]:List UInt8).toArray⟩,.string ⟨([67,79,85,78,84]:List UInt8).toArray⟩,.string ⟨([83,85,77]:List UInt8).toArray⟩,.string ⟨([77,73,78]:List UInt8).toArray⟩,.string ⟨([77,65,88]:List UInt8).toArray⟩],rfl,rfl,⟨[.string ⟨([65,78,68]:List UInt8).toArray⟩],[.string ⟨([79,82]:List UInt8).toArray⟩,.string ⟨([78,79,84]:List UInt8).toArray⟩,.string ⟨([73,83]:List UInt8).toArray⟩,.string ⟨([78,85,76,76]:List UInt8).toArray⟩,.string ⟨([84,82,85,69]:List UInt8).toArray⟩,.string ⟨([70,65,76,83,69]:List UInt8).toArray⟩,.string ⟨([67,79,85,78,84]:List UInt8).toArray⟩,.string ⟨([83,85,77]:List UInt8).toArray⟩,.string ⟨([77,73,78]:List UInt8).toArray⟩,.string ⟨([77,65,88]:List UInt8).toArray⟩],rfl,rfl,⟨[.string ⟨([79,82]:List UInt8).toArray⟩],[.string ⟨([78,79,84]:List UInt8).toArray⟩,.string ⟨([73,83]:List UInt8).toArray⟩,.string ⟨([78,85,76,76]:List UInt8).toArray⟩,.string ⟨([84,82,85,69]:List UInt8).toArray⟩,.string ⟨([70,65,76,83,69]:List UInt8).toArray⟩,.string ⟨([67,79,85,78,84]:List UInt8).toArray⟩,.string ⟨([83,85,77]:List UInt8).toArray⟩,.string ⟨([77,73,78]:List UInt8).toArray⟩,.string ⟨([77,65,88]:List UInt8).toArray⟩],rfl,rfl,⟨[.string ⟨([78,79,84]:List UInt8).toArray⟩],[.string ⟨([73,83]:List UInt8).toArray⟩,.string ⟨([78,85,76,76]:List UInt8).toArray⟩,.string ⟨([84,82,85,69]:List UInt8).toArray⟩,.string ⟨([70,65,76,83,69]:List UInt8).toArray⟩,.string ⟨([67,79,85,78,84]:List UInt8).toArray⟩,.string ⟨([83,85,77]:List UInt8).toArray⟩,.string ⟨([77,73,78]:List UInt8).toArray⟩,.string ⟨([77,65,88]:List UInt8).toArray⟩],rfl,rfl,⟨[.string ⟨([73,83]:List UInt8).toArray⟩],[.string ⟨([78,85,76,76]:List UInt8).toArray⟩,.string ⟨([84,82,85,69]:List UInt8).toArray⟩,.string ⟨([70,65,76,83,69]:List UInt8).toArray⟩,.string ⟨([67,79,85,78,84]:List UInt8).toArray⟩,.string ⟨([83,85,77]:List UInt8).toArray⟩,.string ⟨([77,73,78]:List UInt8).toArray⟩,.string ⟨([77,65,88]:List UInt8).toArray⟩],rfl,rfl,⟨[.string ⟨([78,85,76,76]:List UInt8).toArray⟩],[.string ⟨([84,82,85,69]:List UInt8).toArray⟩,.string ⟨([70,65,76,83,69]:List UInt8).toArray⟩,.string ⟨([67,79,85,78,84]:List UInt8).toArray⟩,.string ⟨([83,85,77]:List UInt8).toArray⟩,.string ⟨([77,73,78]:List UInt8).toArray⟩,.string ⟨([77,65,88]:List UInt8).toArray⟩],rfl,rfl,⟨[.string ⟨([84,82,85,69]:List UInt8).toArray⟩],[.string ⟨([70,65,76,83,69]:List UInt8).toArray⟩,.string ⟨([67,79,85,78,84]:List UInt8).toArray⟩,.string ⟨([83,85,77]:List UInt8).toArray⟩,.string ⟨([77,73,78]:List UInt8).toArray⟩,.string ⟨([77,65,88]:List UInt8).toArray⟩],rfl,rfl,⟨[.string ⟨([70,65,76,83,69]:List UInt8).toArray⟩],[.string ⟨([67,79,85,78,84]:List UInt8).toArray⟩,.string ⟨([83,85,77]:List UInt8).toArray⟩,.string ⟨([77,73,78]:List UInt8).toArray⟩,.string ⟨([77,65,88]:List UInt8).toArray⟩],rfl,rfl,⟨[.string ⟨([67,79,85,78,84]:List UInt8).toArray⟩],[.string ⟨([83,85,77]:List UInt8).toArray⟩,.string ⟨([77,73,78]:List UInt8).toArray⟩,.string ⟨([77,65,88]:List UInt8).toArray⟩],rfl,rfl,⟨[.string ⟨([83,85,77]:List UInt8).toArray⟩],[.string ⟨([77,73,78]:List UInt8).toArray⟩,.string ⟨([77,65,88]:List UInt8).toArray⟩],rfl,rfl,⟨[.string ⟨([77,73,78]:List UInt8).toArray⟩],[.string ⟨([77,65,88]:List UInt8).toArray⟩],rfl,rfl,⟨[.string ⟨([77,65,88]:List UInt8).toArray⟩],[],rfl,rfl,(rfl:_=[])⟩⟩⟩⟩⟩⟩⟩⟩⟩⟩⟩⟩⟩⟩⟩⟩⟩⟩⟩⟩⟩⟩⟩⟩⟩⟩⟩⟩⟩

end Go.Proofs.YthbdkceckjihgaaGreatDoor

