/- cu of this claim: D. -/
import Derived.Test.YthbdkceckjihgaaGreatDoorBeV3
import Derived.Test.YthbdkceckjihgaaGreatDoorBeV4
set_option linter.all false
namespace Go.Proofs.YthbdkceckjihgaaGreatDoor
open Go

structure bl where
 Name:bZ
 Kind:Int
 deriving DecidableEq,Inhabited
def cr:Rp bl:=iM (bA rS (rI .i64)) (fun x=>(x.Name,x.Kind))
def qt:iZ cr 0 rS (fun x=>x.Name):=(ck bq)
def wc:dQ cr 0 rS (fun x y=>{x with Name:=y}):=bf cc (fun _ _=>rfl)
def Ch:iZ cr 1 (rI .i64) (fun x=>x.Kind):=(ay bq rfl)
def wb:dQ cr 1 (rI .i64) (fun x y=>{x with Kind:=y}):=bf (an am rfl) (fun _ _=>rfl)
def pD: ∀S,cr.rc S [.string ⟨#[]⟩,.int .i64 0] ((⟨[],(0:Int)⟩:bl)):=fun _=>⟨[.string ⟨#[]⟩],[.int .i64 0],rfl,rfl,rfl⟩
structure GO where
 word:bZ
 kind:Int
 deriving DecidableEq,Inhabited
def wZ:Rp GO:=iM (bA rS (rI .i64)) (fun x=>(x.word,x.kind))
def OU:iZ wZ 0 rS (fun x=>x.word):=(ck bq)
def OT:iZ wZ 1 (rI .i64) (fun x=>x.kind):=(ay bq rfl)
def RT: ∀S,wZ.rc S [.string ⟨#[]⟩,.int .i64 0] ((⟨[],(0:Int)⟩:GO)):=fun _=>⟨[.string ⟨#[]⟩],[.int .i64 0],rfl,rfl,rfl⟩
structure bp where
 Name:bZ
 Columns:(List bl)
 Keys:(List Int)
 deriving DecidableEq,Inhabited
def cD:Rp bp:=iM (bA rS (bA (ek cr) (ek (rI .i64)))) (fun x=>(x.Name,x.Columns,x.Keys))
def Eu:iZ cD 0 rS (fun x=>x.Name):=(ck bq)
def DD:dQ cD 0 rS (fun x y=>{x with Name:=y}):=bf cc (fun _ _=>rfl)
def mJ:iZ cD 1 (ek cr) (fun x=>x.Columns):=(ck (ay bq rfl))
def yU:dQ cD 1 (ek cr) (fun x y=>{x with Columns:=y}):=bf (an cc rfl) (fun _ _=>rfl)
def zf:iZ cD 2 (ek (rI .i64)) (fun x=>x.Keys):=(ay (ay bq rfl) rfl)
def Kv:dQ cD 2 (ek (rI .i64)) (fun x y=>{x with Keys:=y}):=bf (an (an am rfl) rfl) (fun _ _=>rfl)
def zN: ∀S,cD.rc S [.string ⟨#[]⟩,.slice none 0 0,.slice none 0 0] ((⟨[],[],[]⟩:bp)):=fun _=>⟨[.string ⟨#[]⟩],[.slice none 0 0,.slice none 0 0],rfl,rfl,⟨[.slice none 0 0],[.slice none 0 0],rfl,⟨none,0,rfl,eO _,ij _,.inl rfl⟩,⟨none,0,rfl,eO _,ij _,.inl rfl⟩⟩⟩
structure aq where
 Tables:(List bp)
 deriving DecidableEq,Inhabited
def bX:Rp aq:=iM (ek cD) (fun x=>(x.Tables))
def lC:iZ bX 0 (ek cD) (fun x=>x.Tables):=bq
def Hf:dQ bX 0 (ek cD) (fun x y=>{x with Tables:=y}):=bf am (fun _ _=>rfl)
def pE: ∀S,bX.rc S [.slice none 0 0] ((⟨[]⟩:aq)):=fun _=>⟨none,0,rfl,eO _,ij _,.inl rfl⟩
structure bO where
 Kind:Int
 N:Int
 U:Int
 S:bZ
 deriving DecidableEq,Inhabited
def dF:Rp bO:=iM (bA (rI .i64) (bA (rI .i64) (bA (rI .u64) rS))) (fun x=>(x.Kind,x.N,x.U,x.S))
def uR:iZ dF 0 (rI .i64) (fun x=>x.Kind):=(ck bq)
def yT:dQ dF 0 (rI .i64) (fun x y=>{x with Kind:=y}):=bf cc (fun _ _=>rfl)
def uQ:iZ dF 1 (rI .i64) (fun x=>x.N):=(ck (ay bq rfl))
def DC:dQ dF 1 (rI .i64) (fun x y=>{x with N:=y}):=bf (an cc rfl) (fun _ _=>rfl)
def Lb:iZ dF 2 (rI .u64) (fun x=>x.U):=(ck (ay (ay bq rfl) rfl))
def Ku:dQ dF 2 (rI .u64) (fun x y=>{x with U:=y}):=bf (an (an cc rfl) rfl) (fun _ _=>rfl)
def si:iZ dF 3 rS (fun x=>x.S):=(ay (ay (ay bq rfl) rfl) rfl)
def DB:dQ dF 3 rS (fun x y=>{x with S:=y}):=bf (an (an (an am rfl) rfl) rfl) (fun _ _=>rfl)
def rL: ∀S,dF.rc S [.int .i64 0,.int .i64 0,.int .u64 0,.string ⟨#[]⟩] ((⟨(0:Int),(0:Int),(0:Int),[]⟩:bO)):=fun _=>⟨[.int .i64 0],[.int .i64 0,.int .u64 0,.string ⟨#[]⟩],rfl,rfl,⟨[.int .i64 0],[.int .u64 0,.string ⟨#[]⟩],rfl,rfl,⟨[.int .u64 0],[.string ⟨#[]⟩],rfl,rfl,rfl⟩⟩⟩
structure cj where
 Tag:Int
 L:Int
 R:Int
 Value:bO
 Table:bZ
 Name:bZ
 deriving DecidableEq,Inhabited
def cB:Rp cj:=iM (bA (rI .i64) (bA (rI .i64) (bA (rI .i64) (bA dF (bA rS rS))))) (fun x=>(x.Tag,x.L,x.R,x.Value,x.Table,x.Name))
def ox:iZ cB 0 (rI .i64) (fun x=>x.Tag):=(ck bq)
def Od:dQ cB 0 (rI .i64) (fun x y=>{x with Tag:=y}):=bf cc (fun _ _=>rfl)
def Gw:iZ cB 1 (rI .i64) (fun x=>x.L):=(ck (ay bq rfl))
def Oc:dQ cB 1 (rI .i64) (fun x y=>{x with L:=y}):=bf (an cc rfl) (fun _ _=>rfl)
def Gv:iZ cB 2 (rI .i64) (fun x=>x.R):=(ck (ay (ay bq rfl) rfl))
def Oa:dQ cB 2 (rI .i64) (fun x y=>{x with R:=y}):=bf (an (an cc rfl) rfl) (fun _ _=>rfl)
def ow:iZ cB 3 dF (fun x=>x.Value):=(ck (ay (ay (ay bq rfl) rfl) rfl))
def N9:dQ cB 3 dF (fun x y=>{x with Value:=y}):=bf (an (an (an cc rfl) rfl) rfl) (fun _ _=>rfl)
def uh:iZ cB 7 rS (fun x=>x.Table):=(ck (ay (ay (ay (ay bq rfl) rfl) rfl) rfl))
def N8:dQ cB 7 rS (fun x y=>{x with Table:=y}):=bf (an (an (an (an cc rfl) rfl) rfl) rfl) (fun _ _=>rfl)
def rz:iZ cB 8 rS (fun x=>x.Name):=(ay (ay (ay (ay (ay bq rfl) rfl) rfl) rfl) rfl)
def FZ:dQ cB 8 rS (fun x y=>{x with Name:=y}):=bf (an (an (an (an (an am rfl) rfl) rfl) rfl) rfl) (fun _ _=>rfl)
def CO: ∀S,cB.rc S [.int .i64 0,.int .i64 0,.int .i64 0,.int .i64 0,.int .i64 0,.int .u64 0,.string ⟨#[]⟩,.string ⟨#[]⟩,.string ⟨#[]⟩] ((⟨(0:Int),(0:Int),(0:Int),(⟨(0:Int),(0:Int),(0:Int),[]⟩:bO),[],[]⟩:cj)):=fun _=>⟨[.int .i64 0],[.int .i64 0,.int .i64 0,.int .i64 0,.int .i64 0,.int .u64 0,.string ⟨#[]⟩,.string ⟨#[]⟩,.string ⟨#[]⟩],rfl,rfl,⟨[.int .i64 0],[.int .i64 0,.int .i64 0,.int .i64 0,.int .u64 0,.string ⟨#[]⟩,.string ⟨#[]⟩,.string ⟨#[]⟩],rfl,rfl,⟨[.int .i64 0],[.int .i64 0,.int .i64 0,.int .u64 0,.string ⟨#[]⟩,.string ⟨#[]⟩,.string ⟨#[]⟩],rfl,rfl,⟨[.int .i64 0,.int .i64 0,.int .u64 0,.string ⟨#[]⟩],[.string ⟨#[]⟩,.string ⟨#[]⟩],rfl,rL _,⟨[.string ⟨#[]⟩],[.string ⟨#[]⟩],rfl,rfl,rfl⟩⟩⟩⟩⟩
structure ce where
 Nodes:(List cj)
 deriving DecidableEq,Inhabited
def aY:Rp ce:=iM (ek cB) (fun x=>(x.Nodes))
def kQ:iZ aY 0 (ek cB) (fun x=>x.Nodes):=bq
def N7:dQ aY 0 (ek cB) (fun x y=>{x with Nodes:=y}):=bf am (fun _ _=>rfl)
def qV: ∀S,aY.rc S [.slice none 0 0] ((⟨[]⟩:ce)):=fun _=>⟨none,0,rfl,eO _,ij _,.inl rfl⟩
structure eh where
 Tree:ce
 As:bZ
 deriving DecidableEq,Inhabited
def cF:Rp eh:=iM (bA aY rS) (fun x=>(x.Tree,x.As))
def oy:iZ cF 0 aY (fun x=>x.Tree):=(ck bq)
def Ba:dQ cF 0 aY (fun x y=>{x with Tree:=y}):=bf cc (fun _ _=>rfl)
def Gy:iZ cF 1 rS (fun x=>x.As):=(ay bq rfl)
def uq: ∀S,cF.rc S [.slice none 0 0,.string ⟨#[]⟩] ((⟨(⟨[]⟩:ce),[]⟩:eh)):=fun _=>⟨[.slice none 0 0],[.string ⟨#[]⟩],rfl,qV _,rfl⟩
structure da where
 Table:bZ
 As:bZ
 deriving DecidableEq,Inhabited
def gm:Rp da:=iM (bA rS rS) (fun x=>(x.Table,x.As))
def wu:iZ gm 0 rS (fun x=>x.Table):=(ck bq)
def IF:dQ gm 0 rS (fun x y=>{x with Table:=y}):=bf cc (fun _ _=>rfl)
def wt:iZ gm 1 rS (fun x=>x.As):=(ay bq rfl)
def wW: ∀S,gm.rc S [.string ⟨#[]⟩,.string ⟨#[]⟩] ((⟨[],[]⟩:da)):=fun _=>⟨[.string ⟨#[]⟩],[.string ⟨#[]⟩],rfl,rfl,rfl⟩
structure kw where
 Left:Bool
 Source:da
 On:ce
 deriving DecidableEq,Inhabited
def dm:Rp kw:=iM (bA rB (bA gm aY)) (fun x=>(x.Left,x.Source,x.On))
def OV:iZ dm 0 rB (fun x=>x.Left):=(ck bq)
def Gx:iZ dm 1 gm (fun x=>x.Source):=(ck (ay bq rfl))
def xo:iZ dm 3 aY (fun x=>x.On):=(ay (ay bq rfl) rfl)
def F2:dQ dm 3 aY (fun x y=>{x with On:=y}):=bf (an (an am rfl) rfl) (fun _ _=>rfl)
def CQ: ∀S,dm.rc S [.bool false,.string ⟨#[]⟩,.string ⟨#[]⟩,.slice none 0 0] ((⟨false,(⟨[],[]⟩:da),(⟨[]⟩:ce)⟩:kw)):=fun _=>⟨[.bool false],[.string ⟨#[]⟩,.string ⟨#[]⟩,.slice none 0 0],rfl,rfl,⟨[.string ⟨#[]⟩,.string ⟨#[]⟩],[.slice none 0 0],rfl,wW _,qV _⟩⟩
structure ig where
 Table:bZ
 Name:bZ
 deriving DecidableEq,Inhabited
def d8:Rp ig:=iM (bA rS rS) (fun x=>(x.Table,x.Name))
def Bw:iZ d8 0 rS (fun x=>x.Table):=(ck bq)
def F1:dQ d8 0 rS (fun x y=>{x with Table:=y}):=bf cc (fun _ _=>rfl)
def Bv:iZ d8 1 rS (fun x=>x.Name):=(ay bq rfl)
def F0:dQ d8 1 rS (fun x y=>{x with Name:=y}):=bf (an am rfl) (fun _ _=>rfl)
def CP: ∀S,d8.rc S [.string ⟨#[]⟩,.string ⟨#[]⟩] ((⟨[],[]⟩:ig)):=fun _=>⟨[.string ⟨#[]⟩],[.string ⟨#[]⟩],rfl,rfl,rfl⟩
structure al where
 Distinct:Bool
 Star:Bool
 Items:(List eh)
 From:da
 Joins:(List kw)
 Where:ce
 Having:ce
 Group:(List ig)
 deriving DecidableEq,Inhabited
def aB:Rp al:=iM (bA rB (bA rB (bA (ek cF) (bA gm (bA (ek dm) (bA aY (bA aY (ek d8)))))))) (fun x=>(x.Distinct,x.Star,x.Items,x.From,x.Joins,x.Where,x.Having,x.Group))
def Jv:iZ aB 0 rB (fun x=>x.Distinct):=(ck bq)
def s9:iZ aB 1 rB (fun x=>x.Star):=(ck (ay bq rfl))
def ll:iZ aB 2 (ek cF) (fun x=>x.Items):=(ck (ay (ay bq rfl) rfl))
def IH:dQ aB 2 (ek cF) (fun x y=>{x with Items:=y}):=bf (an (an cc rfl) rfl) (fun _ _=>rfl)
def Cg:iZ aB 3 gm (fun x=>x.From):=(ck (ay (ay (ay bq rfl) rfl) rfl))
def IG:dQ aB 3 gm (fun x y=>{x with From:=y}):=bf (an (an (an cc rfl) rfl) rfl) (fun _ _=>rfl)
def mK:iZ aB 5 (ek dm) (fun x=>x.Joins):=(ck (ay (ay (ay (ay bq rfl) rfl) rfl) rfl))
def wv:iZ aB 6 aY (fun x=>x.Where):=(ck (ay (ay (ay (ay (ay bq rfl) rfl) rfl) rfl) rfl))
def s8:iZ aB 7 aY (fun x=>x.Having):=(ck (ay (ay (ay (ay (ay (ay bq rfl) rfl) rfl) rfl) rfl) rfl))
def ju:iZ aB 8 (ek d8) (fun x=>x.Group):=(ay (ay (ay (ay (ay (ay (ay bq rfl) rfl) rfl) rfl) rfl) rfl) rfl)
def AS: ∀S,aB.rc S [.bool false,.bool false,.slice none 0 0,.string ⟨#[]⟩,.string ⟨#[]⟩,.slice none 0 0,.slice none 0 0,.slice none 0 0,.slice none 0 0] ((⟨false,false,[],(⟨[],[]⟩:da),[],(⟨[]⟩:ce),(⟨[]⟩:ce),[]⟩:al)):=fun _=>⟨[.bool false],[.bool false,.slice none 0 0,.string ⟨#[]⟩,.string ⟨#[]⟩,.slice none 0 0,.slice none 0 0,.slice none 0 0,.slice none 0 0],rfl,rfl,⟨[.bool false],[.slice none 0 0,.string ⟨#[]⟩,.string ⟨#[]⟩,.slice none 0 0,.slice none 0 0,.slice none 0 0,.slice none 0 0],rfl,rfl,⟨[.slice none 0 0],[.string ⟨#[]⟩,.string ⟨#[]⟩,.slice none 0 0,.slice none 0 0,.slice none 0 0,.slice none 0 0],rfl,⟨none,0,rfl,eO _,ij _,.inl rfl⟩,⟨[.string ⟨#[]⟩,.string ⟨#[]⟩],[.slice none 0 0,.slice none 0 0,.slice none 0 0,.slice none 0 0],rfl,wW _,⟨[.slice none 0 0],[.slice none 0 0,.slice none 0 0,.slice none 0 0],rfl,⟨none,0,rfl,eO _,ij _,.inl rfl⟩,⟨[.slice none 0 0],[.slice none 0 0,.slice none 0 0],rfl,qV _,⟨[.slice none 0 0],[.slice none 0 0],rfl,qV _,⟨none,0,rfl,eO _,ij _,.inl rfl⟩⟩⟩⟩⟩⟩⟩⟩
structure jO where
 first:Int
 depth:Int
 deriving DecidableEq,Inhabited
def fO:Rp jO:=iM (bA (rI .i64) (rI .i64)) (fun x=>(x.first,x.depth))
def Et:iZ fO 0 (rI .i64) (fun x=>x.first):=(ck bq)
def DA:dQ fO 0 (rI .i64) (fun x y=>{x with first:=y}):=bf cc (fun _ _=>rfl)
def uP:iZ fO 1 (rI .i64) (fun x=>x.depth):=(ay bq rfl)
def Dz:dQ fO 1 (rI .i64) (fun x y=>{x with depth:=y}):=bf (an am rfl) (fun _ _=>rfl)
def Il: ∀S,fO.rc S [.int .i64 0,.int .i64 0] ((⟨(0:Int),(0:Int)⟩:jO)):=fun _=>⟨[.int .i64 0],[.int .i64 0],rfl,rfl,rfl⟩
structure lT where
 Name:bZ
 Number:Int
 Desc:Bool
 deriving DecidableEq,Inhabited
def d5:Rp lT:=iM (bA rS (bA (rI .i64) rB)) (fun x=>(x.Name,x.Number,x.Desc))
def wx:iZ d5 0 rS (fun x=>x.Name):=(ck bq)
def ww:iZ d5 1 (rI .i64) (fun x=>x.Number):=(ck (ay bq rfl))
def II:dQ d5 1 (rI .i64) (fun x y=>{x with Number:=y}):=bf (an cc rfl) (fun _ _=>rfl)
def QP:iZ d5 2 rB (fun x=>x.Desc):=(ay (ay bq rfl) rfl)
def GY: ∀S,d5.rc S [.string ⟨#[]⟩,.int .i64 0,.bool false] ((⟨[],(0:Int),false⟩:lT)):=fun _=>⟨[.string ⟨#[]⟩],[.int .i64 0,.bool false],rfl,rfl,⟨[.int .i64 0],[.bool false],rfl,rfl,rfl⟩⟩
structure aN where
 Selects:(List al)
 Keys:(List lT)
 Limit:Int
 deriving DecidableEq,Inhabited
def bd:Rp aN:=iM (bA (ek aB) (bA (ek d5) (rI .i64))) (fun x=>(x.Selects,x.Keys,x.Limit))
def oa:iZ bd 0 (ek aB) (fun x=>x.Selects):=(ck bq)
def DE:dQ bd 0 (ek aB) (fun x y=>{x with Selects:=y}):=bf cc (fun _ _=>rfl)
def n9:iZ bd 1 (ek d5) (fun x=>x.Keys):=(ck (ay bq rfl))
def Kx:dQ bd 1 (ek d5) (fun x y=>{x with Keys:=y}):=bf (an cc rfl) (fun _ _=>rfl)
def zg:iZ bd 2 (rI .i64) (fun x=>x.Limit):=(ay (ay bq rfl) rfl)
def Kw:dQ bd 2 (rI .i64) (fun x y=>{x with Limit:=y}):=bf (an (an am rfl) rfl) (fun _ _=>rfl)
def rM: ∀S,bd.rc S [.slice none 0 0,.slice none 0 0,.int .i64 0] ((⟨[],[],(0:Int)⟩:aN)):=fun _=>⟨[.slice none 0 0],[.slice none 0 0,.int .i64 0],rfl,⟨none,0,rfl,eO _,ij _,.inl rfl⟩,⟨[.slice none 0 0],[.int .i64 0],rfl,⟨none,0,rfl,eO _,ij _,.inl rfl⟩,rfl⟩⟩
structure ap where
 Tag:Int
 L:Int
 R:Int
 Col:Int
 Value:bO
 deriving DecidableEq,Inhabited
def bh:Rp ap:=iM (bA (rI .i64) (bA (rI .i64) (bA (rI .i64) (bA (rI .i64) dF)))) (fun x=>(x.Tag,x.L,x.R,x.Col,x.Value))
def jK:iZ bh 0 (rI .i64) (fun x=>x.Tag):=(ck bq)
def pJ:dQ bh 0 (rI .i64) (fun x y=>{x with Tag:=y}):=bf cc (fun _ _=>rfl)
def uT:iZ bh 1 (rI .i64) (fun x=>x.L):=(ck (ay bq rfl))
def DG:dQ bh 1 (rI .i64) (fun x y=>{x with L:=y}):=bf (an cc rfl) (fun _ _=>rfl)
def uS:iZ bh 2 (rI .i64) (fun x=>x.R):=(ck (ay (ay bq rfl) rfl))
def DF:dQ bh 2 (rI .i64) (fun x y=>{x with R:=y}):=bf (an (an cc rfl) rfl) (fun _ _=>rfl)
def mL:iZ bh 3 (rI .i64) (fun x=>x.Col):=(ck (ay (ay (ay bq rfl) rfl) rfl))
def yV:dQ bh 3 (rI .i64) (fun x y=>{x with Col:=y}):=bf (an (an (an cc rfl) rfl) rfl) (fun _ _=>rfl)
def sj:iZ bh 4 dF (fun x=>x.Value):=(ay (ay (ay (ay bq rfl) rfl) rfl) rfl)
def Ky:dQ bh 4 dF (fun x y=>{x with Value:=y}):=bf (an (an (an (an am rfl) rfl) rfl) rfl) (fun _ _=>rfl)
def ny: ∀S,bh.rc S [.int .i64 0,.int .i64 0,.int .i64 0,.int .i64 0,.int .i64 0,.int .i64 0,.int .u64 0,.string ⟨#[]⟩] ((⟨(0:Int),(0:Int),(0:Int),(0:Int),(⟨(0:Int),(0:Int),(0:Int),[]⟩:bO)⟩:ap)):=fun _=>⟨[.int .i64 0],[.int .i64 0,.int .i64 0,.int .i64 0,.int .i64 0,.int .i64 0,.int .u64 0,.string ⟨#[]⟩],rfl,rfl,⟨[.int .i64 0],[.int .i64 0,.int .i64 0,.int .i64 0,.int .i64 0,.int .u64 0,.string ⟨#[]⟩],rfl,rfl,⟨[.int .i64 0],[.int .i64 0,.int .i64 0,.int .i64 0,.int .u64 0,.string ⟨#[]⟩],rfl,rfl,⟨[.int .i64 0],[.int .i64 0,.int .i64 0,.int .u64 0,.string ⟨#[]⟩],rfl,rfl,rL _⟩⟩⟩⟩
structure aD where
 Nodes:(List ap)
 deriving DecidableEq,Inhabited
def ae:Rp aD:=iM (ek bh) (fun x=>(x.Nodes))
def pQ:iZ ae 0 (ek bh) (fun x=>x.Nodes):=bq
def Oe:dQ ae 0 (ek bh) (fun x y=>{x with Nodes:=y}):=bf am (fun _ _=>rfl)
def ei: ∀S,ae.rc S [.slice none 0 0] ((⟨[]⟩:aD)):=fun _=>⟨none,0,rfl,eO _,ij _,.inl rfl⟩
structure mU where
 Left:Bool
 On:aD
 deriving DecidableEq,Inhabited
def aF:Rp mU:=iM (bA rB ae) (fun x=>(x.Left,x.On))
def KA:dQ aF 0 rB (fun x y=>{x with Left:=y}):=bf cc (fun _ _=>rfl)
def Kz:dQ aF 1 ae (fun x y=>{x with On:=y}):=bf (an am rfl) (fun _ _=>rfl)
def PE: ∀S,aF.rc S [.bool false,.slice none 0 0] ((⟨false,(⟨[]⟩:aD)⟩:mU)):=fun _=>⟨[.bool false],[.slice none 0 0],rfl,rfl,ei _⟩
structure jT where
 Tag:Int
 Arg:aD
 deriving DecidableEq,Inhabited
def aU:Rp jT:=iM (bA (rI .i64) ae) (fun x=>(x.Tag,x.Arg))
def ui:iZ aU 0 (rI .i64) (fun x=>x.Tag):=(ck bq)
def Qb:dQ aU 0 (rI .i64) (fun x y=>{x with Tag:=y}):=bf cc (fun _ _=>rfl)
def Ew:iZ aU 1 ae (fun x=>x.Arg):=(ay bq rfl)
def Qa:dQ aU 1 ae (fun x y=>{x with Arg:=y}):=bf (an am rfl) (fun _ _=>rfl)
def PF: ∀S,aU.rc S [.int .i64 0,.slice none 0 0] ((⟨(0:Int),(⟨[]⟩:aD)⟩:jT)):=fun _=>⟨[.int .i64 0],[.slice none 0 0],rfl,rfl,ei _⟩
structure aS where
 Tables:(List Int)
 Joins:(List mU)
 Where:aD
 Having:aD
 Grouped:Bool
 Distinct:Bool
 Keys:(List Int)
 Aggs:(List jT)
 Items:(List aD)
 deriving DecidableEq,Inhabited
def cv:Rp aS:=iM (bA (ek (rI .i64)) (bA (ek aF) (bA ae (bA ae (bA rB (bA rB (bA (ek (rI .i64)) (bA (ek aU) (ek ae))))))))) (fun x=>(x.Tables,x.Joins,x.Where,x.Having,x.Grouped,x.Distinct,x.Keys,x.Aggs,x.Items))
def Hn:dQ cv 0 (ek (rI .i64)) (fun x y=>{x with Tables:=y}):=bf cc (fun _ _=>rfl)
def Hm:dQ cv 1 (ek aF) (fun x y=>{x with Joins:=y}):=bf (an cc rfl) (fun _ _=>rfl)
def Hl:dQ cv 2 ae (fun x y=>{x with Where:=y}):=bf (an (an cc rfl) rfl) (fun _ _=>rfl)
def Hk:dQ cv 3 ae (fun x y=>{x with Having:=y}):=bf (an (an (an cc rfl) rfl) rfl) (fun _ _=>rfl)
def rn:iZ cv 4 rB (fun x=>x.Grouped):=(ck (ay (ay (ay (ay bq rfl) rfl) rfl) rfl))
def Hj:dQ cv 4 rB (fun x y=>{x with Grouped:=y}):=bf (an (an (an (an cc rfl) rfl) rfl) rfl) (fun _ _=>rfl)
def Hi:dQ cv 5 rB (fun x y=>{x with Distinct:=y}):=bf (an (an (an (an (an cc rfl) rfl) rfl) rfl) rfl) (fun _ _=>rfl)
def Hh:dQ cv 6 (ek (rI .i64)) (fun x y=>{x with Keys:=y}):=bf (an (an (an (an (an (an cc rfl) rfl) rfl) rfl) rfl) rfl) (fun _ _=>rfl)
def Hg:dQ cv 7 (ek aU) (fun x y=>{x with Aggs:=y}):=bf (an (an (an (an (an (an (an cc rfl) rfl) rfl) rfl) rfl) rfl) rfl) (fun _ _=>rfl)
def HG:iZ cv 8 (ek ae) (fun x=>x.Items):=(ay (ay (ay (ay (ay (ay (ay (ay bq rfl) rfl) rfl) rfl) rfl) rfl) rfl) rfl)
def zX:dQ cv 8 (ek ae) (fun x y=>{x with Items:=y}):=bf (an (an (an (an (an (an (an (an am rfl) rfl) rfl) rfl) rfl) rfl) rfl) rfl) (fun _ _=>rfl)
def Ka: ∀S,cv.rc S [.slice none 0 0,.slice none 0 0,.slice none 0 0,.slice none 0 0,.bool false,.bool false,.slice none 0 0,.slice none 0 0,.slice none 0 0] ((⟨[],[],(⟨[]⟩:aD),(⟨[]⟩:aD),false,false,[],[],[]⟩:aS)):=fun _=>⟨[.slice none 0 0],[.slice none 0 0,.slice none 0 0,.slice none 0 0,.bool false,.bool false,.slice none 0 0,.slice none 0 0,.slice none 0 0],rfl,⟨none,0,rfl,eO _,ij _,.inl rfl⟩,⟨[.slice none 0 0],[.slice none 0 0,.slice none 0 0,.bool false,.bool false,.slice none 0 0,.slice none 0 0,.slice none 0 0],rfl,⟨none,0,rfl,eO _,ij _,.inl rfl⟩,⟨[.slice none 0 0],[.slice none 0 0,.bool false,.bool false,.slice none 0 0,.slice none 0 0,.slice none 0 0],rfl,ei _,⟨[.slice none 0 0],[.bool false,.bool false,.slice none 0 0,.slice none 0 0,.slice none 0 0],rfl,ei _,⟨[.bool false],[.bool false,.slice none 0 0,.slice none 0 0,.slice none 0 0],rfl,rfl,⟨[.bool false],[.slice none 0 0,.slice none 0 0,.slice none 0 0],rfl,rfl,⟨[.slice none 0 0],[.slice none 0 0,.slice none 0 0],rfl,⟨none,0,rfl,eO _,ij _,.inl rfl⟩,⟨[.slice none 0 0],[.slice none 0 0],rfl,⟨none,0,rfl,eO _,ij _,.inl rfl⟩,⟨none,0,rfl,eO _,ij _,.inl rfl⟩⟩⟩⟩⟩⟩⟩⟩⟩
structure ac where
 Catalog:aq
 from_:al
 out:aS
 called:(List (bZ×Bool))
 alone:(List (bZ×(List Int)))
 behind:(List ((bZ×bZ)×Int))
 kinds:(List Int)
 groups:(List Int)
 at_:Int
 deriving DecidableEq,Inhabited
def ax:Rp ac:=iM (bA bX (bA aB (bA cv (bA (Ok:Rp (List (bZ×Bool))) (bA (Ok:Rp (List (bZ×(List Int)))) (bA (Ok:Rp (List ((bZ×bZ)×Int))) (bA (ek (rI .i64)) (bA (ek (rI .i64)) (rI .i64))))))))) (fun x=>(x.Catalog,x.from_,x.out,x.called,x.alone,x.behind,x.kinds,x.groups,x.at_))
def ze:iZ ax 0 bX (fun x=>x.Catalog):=(ck bq)
def gH:iZ ax 1 aB (fun x=>x.from_):=(ck (ay bq rfl))
def gi:iZ ax 10 cv (fun x=>x.out):=(ck (ay (ay bq rfl) rfl))
def ke:dQ ax 10 cv (fun x y=>{x with out:=y}):=bf (an (an cc rfl) rfl) (fun _ _=>rfl)
def Kt:dQ ax 22 (ek (rI .i64)) (fun x y=>{x with kinds:=y}):=bf (an (an (an (an (an (an cc rfl) rfl) rfl) rfl) rfl) rfl) (fun _ _=>rfl)
def Dy:dQ ax 23 (ek (rI .i64)) (fun x y=>{x with groups:=y}):=bf (an (an (an (an (an (an (an cc rfl) rfl) rfl) rfl) rfl) rfl) rfl) (fun _ _=>rfl)
def Es:iZ ax 24 (rI .i64) (fun x=>x.at_):=(ay (ay (ay (ay (ay (ay (ay (ay bq rfl) rfl) rfl) rfl) rfl) rfl) rfl) rfl)
def pI:dQ ax 24 (rI .i64) (fun x y=>{x with at_:=y}):=bf (an (an (an (an (an (an (an (an am rfl) rfl) rfl) rfl) rfl) rfl) rfl) rfl) (fun _ _=>rfl)
structure zz where
 Col:Int
 Desc:Bool
 deriving DecidableEq,Inhabited
def nX:Rp zz:=iM (bA (rI .i64) rB) (fun x=>(x.Col,x.Desc))
def PZ:dQ nX 0 (rI .i64) (fun x y=>{x with Col:=y}):=bf cc (fun _ _=>rfl)
def PY:dQ nX 1 rB (fun x y=>{x with Desc:=y}):=bf (an am rfl) (fun _ _=>rfl)
def Ur: ∀S,nX.rc S [.int .i64 0,.bool false] ((⟨(0:Int),false⟩:zz)):=fun _=>⟨[.int .i64 0],[.bool false],rfl,rfl,rfl⟩
structure aQ where
 Selects:(List aS)
 Names:(List bZ)
 Kinds:(List Int)
 Order:(List zz)
 Limit:Int
 deriving DecidableEq,Inhabited
def cX:Rp aQ:=iM (bA (ek cv) (bA (ek rS) (bA (ek (rI .i64)) (bA (ek nX) (rI .i64))))) (fun x=>(x.Selects,x.Names,x.Kinds,x.Order,x.Limit))
def Ld:iZ cX 0 (ek cv) (fun x=>x.Selects):=(ck bq)
def Ev:iZ cX 1 (ek rS) (fun x=>x.Names):=(ck (ay bq rfl))
def Lc:iZ cX 2 (ek (rI .i64)) (fun x=>x.Kinds):=(ck (ay (ay bq rfl) rfl))
def nz: ∀S,cX.rc S [.slice none 0 0,.slice none 0 0,.slice none 0 0,.slice none 0 0,.int .i64 0] ((⟨[],[],[],[],(0:Int)⟩:aQ)):=fun _=>⟨[.slice none 0 0],[.slice none 0 0,.slice none 0 0,.slice none 0 0,.int .i64 0],rfl,⟨none,0,rfl,eO _,ij _,.inl rfl⟩,⟨[.slice none 0 0],[.slice none 0 0,.slice none 0 0,.int .i64 0],rfl,⟨none,0,rfl,eO _,ij _,.inl rfl⟩,⟨[.slice none 0 0],[.slice none 0 0,.int .i64 0],rfl,⟨none,0,rfl,eO _,ij _,.inl rfl⟩,⟨[.slice none 0 0],[.int .i64 0],rfl,⟨none,0,rfl,eO _,ij _,.inl rfl⟩,rfl⟩⟩⟩⟩
structure au where
 c:aq
 sources:(List da)
 out:aS
 deriving DecidableEq,Inhabited
structure E7 where
 Tables:Value
def gD:Rp E7:=iM rV (fun x=>(x.Tables))
def pc:iZ gD 0 rV (fun x=>x.Tables):=bq
def Dx:dQ gD 0 rV (fun x y=>{x with Tables:=y}):=bf am (fun _ _=>rfl)
def jo(y:aq)(v0:Value):E7:=⟨v0⟩
def zM: ∀S,gD.rc S [.slice none 0 0] (jo ((⟨[]⟩:aq)) (Y none 0 0)):=fun _=>⟨rfl,rfl⟩
structure JV where
 Selects:Value
 Keys:(List lT)
 Limit:Int
def gC:Rp JV:=iM (bA rV (bA (ek d5) (rI .i64))) (fun x=>(x.Selects,x.Keys,x.Limit))
def An:iZ gC 0 rV (fun x=>x.Selects):=(ck bq)
def He:dQ gC 1 (ek d5) (fun x y=>{x with Keys:=y}):=bf (an cc rfl) (fun _ _=>rfl)
def ja(y:aN)(v0:Value):JV:=⟨v0,y.Keys,y.Limit⟩
structure E6 where
 Selects:Value
 Keys:Value
 Limit:Int
def cx:Rp E6:=iM (bA rV (bA rV (rI .i64))) (fun x=>(x.Selects,x.Keys,x.Limit))
def sf:iZ cx 0 rV (fun x=>x.Selects):=(ck bq)
def Er:iZ cx 1 rV (fun x=>x.Keys):=(ck (ay bq rfl))
def c0(y:aN)(v0:Value)(v1:Value):E6:=⟨v0,v1,y.Limit⟩
def GX: ∀S,cx.rc S [.slice none 0 0,.slice none 0 0,.int .i64 0] (c0 ((⟨[],[],(0:Int)⟩:aN)) (Y none 0 0) (Y none 0 0)):=fun _=>⟨[.slice none 0 0],[.slice none 0 0,.int .i64 0],rfl,⟨rfl,rfl⟩,⟨[.slice none 0 0],[.int .i64 0],rfl,⟨rfl,rfl⟩,rfl⟩⟩
structure AJ where
 Selects:Value
 Names:(List bZ)
 Kinds:Value
 Order:Value
 Limit:Int
def bT:Rp AJ:=iM (bA rV (bA (ek rS) (bA rV (bA rV (rI .i64))))) (fun x=>(x.Selects,x.Names,x.Kinds,x.Order,x.Limit))
def Bu:iZ bT 0 rV (fun x=>x.Selects):=(ck bq)
def Bs:iZ bT 1 (ek rS) (fun x=>x.Names):=(ck (ay bq rfl))
def A9:dQ bT 1 (ek rS) (fun x y=>{x with Names:=y}):=bf (an cc rfl) (fun _ _=>rfl)
def Br:iZ bT 2 rV (fun x=>x.Kinds):=(ck (ay (ay bq rfl) rfl))
def Bq:iZ bT 3 rV (fun x=>x.Order):=(ck (ay (ay (ay bq rfl) rfl) rfl))
def A8:dQ bT 4 (rI .i64) (fun x y=>{x with Limit:=y}):=bf (an (an (an (an am rfl) rfl) rfl) rfl) (fun _ _=>rfl)
def cU(y:aQ)(v0:Value)(v2:Value)(v3:Value):AJ:=⟨v0,y.Names,v2,v3,y.Limit⟩
def vS: ∀S,bT.rc S [.slice none 0 0,.slice none 0 0,.slice none 0 0,.slice none 0 0,.int .i64 0] (cU ((⟨[],[],[],[],(0:Int)⟩:aQ)) (Y none 0 0) (Y none 0 0) (Y none 0 0)):=fun _=>⟨[.slice none 0 0],[.slice none 0 0,.slice none 0 0,.slice none 0 0,.int .i64 0],rfl,⟨rfl,rfl⟩,⟨[.slice none 0 0],[.slice none 0 0,.slice none 0 0,.int .i64 0],rfl,⟨none,0,rfl,eO _,ij _,.inl rfl⟩,⟨[.slice none 0 0],[.slice none 0 0,.int .i64 0],rfl,⟨rfl,rfl⟩,⟨[.slice none 0 0],[.int .i64 0],rfl,⟨rfl,rfl⟩,rfl⟩⟩⟩⟩
structure VT where
 Selects:Value
 Names:(List bZ)
 Kinds:(List Int)
 Order:Value
 Limit:Int
structure Nz where
 Nodes:Value
def jU:Rp Nz:=iM rV (fun x=>(x.Nodes))
def Cf:iZ jU 0 rV (fun x=>x.Nodes):=bq
def IE:dQ jU 0 rV (fun x y=>{x with Nodes:=y}):=bf am (fun _ _=>rfl)
def lV(y:ce)(v0:Value):Nz:=⟨v0⟩
def FP: ∀S,jU.rc S [.slice none 0 0] (lV ((⟨[]⟩:ce)) (Y none 0 0)):=fun _=>⟨rfl,rfl⟩
structure GM where
 Distinct:Bool
 Star:Bool
 Items:Value
 From:da
 Joins:(List kw)
 Where:ce
 Having:ce
 Group:(List ig)
def BX:Rp GM:=iM (bA rB (bA rB (bA rV (bA gm (bA (ek dm) (bA aY (bA aY (ek d8)))))))) (fun x=>(x.Distinct,x.Star,x.Items,x.From,x.Joins,x.Where,x.Having,x.Group))
def Cd(y:al)(v2:Value):GM:=⟨y.Distinct,y.Star,v2,y.From,y.Joins,y.Where,y.Having,y.Group⟩
structure Cp where
 Distinct:Bool
 Star:Bool
 Items:Value
 From:da
 Joins:Value
 Where:ce
 Having:ce
 Group:(List ig)
def bW:Rp Cp:=iM (bA rB (bA rB (bA rV (bA gm (bA rV (bA aY (bA aY (ek d8)))))))) (fun x=>(x.Distinct,x.Star,x.Items,x.From,x.Joins,x.Where,x.Having,x.Group))
def nQ:iZ bW 2 rV (fun x=>x.Items):=(ck (ay (ay bq rfl) rfl))
def nP:iZ bW 5 rV (fun x=>x.Joins):=(ck (ay (ay (ay (ay bq rfl) rfl) rfl) rfl))
def vu:iZ bW 6 aY (fun x=>x.Where):=(ck (ay (ay (ay (ay (ay bq rfl) rfl) rfl) rfl) rfl))
def vn:dQ bW 6 aY (fun x y=>{x with Where:=y}):=bf (an (an (an (an (an cc rfl) rfl) rfl) rfl) rfl) (fun _ _=>rfl)
def vt:iZ bW 7 aY (fun x=>x.Having):=(ck (ay (ay (ay (ay (ay (ay bq rfl) rfl) rfl) rfl) rfl) rfl))
def vm:dQ bW 7 aY (fun x y=>{x with Having:=y}):=bf (an (an (an (an (an (an cc rfl) rfl) rfl) rfl) rfl) rfl) (fun _ _=>rfl)
def vl:dQ bW 8 (ek d8) (fun x y=>{x with Group:=y}):=bf (an (an (an (an (an (an (an am rfl) rfl) rfl) rfl) rfl) rfl) rfl) (fun _ _=>rfl)
def cZ(y:al)(v2:Value)(v4:Value):Cp:=⟨y.Distinct,y.Star,v2,y.From,v4,y.Where,y.Having,y.Group⟩
def ya: ∀S,bW.rc S [.bool false,.bool false,.slice none 0 0,.string ⟨#[]⟩,.string ⟨#[]⟩,.slice none 0 0,.slice none 0 0,.slice none 0 0,.slice none 0 0] (cZ ((⟨false,false,[],(⟨[],[]⟩:da),[],(⟨[]⟩:ce),(⟨[]⟩:ce),[]⟩:al)) (Y none 0 0) (Y none 0 0)):=fun _=>⟨[.bool false],[.bool false,.slice none 0 0,.string ⟨#[]⟩,.string ⟨#[]⟩,.slice none 0 0,.slice none 0 0,.slice none 0 0,.slice none 0 0],rfl,rfl,⟨[.bool false],[.slice none 0 0,.string ⟨#[]⟩,.string ⟨#[]⟩,.slice none 0 0,.slice none 0 0,.slice none 0 0,.slice none 0 0],rfl,rfl,⟨[.slice none 0 0],[.string ⟨#[]⟩,.string ⟨#[]⟩,.slice none 0 0,.slice none 0 0,.slice none 0 0,.slice none 0 0],rfl,⟨rfl,rfl⟩,⟨[.string ⟨#[]⟩,.string ⟨#[]⟩],[.slice none 0 0,.slice none 0 0,.slice none 0 0,.slice none 0 0],rfl,wW _,⟨[.slice none 0 0],[.slice none 0 0,.slice none 0 0,.slice none 0 0],rfl,⟨rfl,rfl⟩,⟨[.slice none 0 0],[.slice none 0 0,.slice none 0 0],rfl,qV _,⟨[.slice none 0 0],[.slice none 0 0],rfl,qV _,⟨none,0,rfl,eO _,ij _,.inl rfl⟩⟩⟩⟩⟩⟩⟩⟩
structure Yd where
 Nodes:Value
structure AI where
 Catalog:aq
 from_:al
 out:aS
 called:Value
 alone:Value
 behind:Value
 kinds:(List Int)
 groups:(List Int)
 at_:Int
def eG:Rp AI:=iM (bA bX (bA aB (bA cv (bA rV (bA rV (bA rV (bA (ek (rI .i64)) (bA (ek (rI .i64)) (rI .i64))))))))) (fun x=>(x.Catalog,x.from_,x.out,x.called,x.alone,x.behind,x.kinds,x.groups,x.at_))
def A7:dQ eG 0 bX (fun x y=>{x with Catalog:=y}):=bf cc (fun _ _=>rfl)
def A6:dQ eG 1 aB (fun x y=>{x with from_:=y}):=bf (an cc rfl) (fun _ _=>rfl)
def Bp:iZ eG 19 rV (fun x=>x.called):=(ck (ay (ay (ay bq rfl) rfl) rfl))
def A5:dQ eG 19 rV (fun x y=>{x with called:=y}):=bf (an (an (an cc rfl) rfl) rfl) (fun _ _=>rfl)
def Bo:iZ eG 20 rV (fun x=>x.alone):=(ck (ay (ay (ay (ay bq rfl) rfl) rfl) rfl))
def A4:dQ eG 20 rV (fun x y=>{x with alone:=y}):=bf (an (an (an (an cc rfl) rfl) rfl) rfl) (fun _ _=>rfl)
def Bn:iZ eG 21 rV (fun x=>x.behind):=(ck (ay (ay (ay (ay (ay bq rfl) rfl) rfl) rfl) rfl))
def A3:dQ eG 21 rV (fun x y=>{x with behind:=y}):=bf (an (an (an (an (an cc rfl) rfl) rfl) rfl) rfl) (fun _ _=>rfl)
def pb(y:ac)(v3:Value)(v4:Value)(v5:Value):AI:=⟨y.Catalog,y.from_,y.out,v3,v4,v5,y.kinds,y.groups,y.at_⟩
def Di: ∀S,eG.rc S [.slice none 0 0,.bool false,.bool false,.slice none 0 0,.string ⟨#[]⟩,.string ⟨#[]⟩,.slice none 0 0,.slice none 0 0,.slice none 0 0,.slice none 0 0,.slice none 0 0,.slice none 0 0,.slice none 0 0,.slice none 0 0,.bool false,.bool false,.slice none 0 0,.slice none 0 0,.slice none 0 0,.map none,.map none,.map none,.slice none 0 0,.slice none 0 0,.int .i64 0] (pb ((⟨(⟨[]⟩:aq),(⟨false,false,[],(⟨[],[]⟩:da),[],(⟨[]⟩:ce),(⟨[]⟩:ce),[]⟩:al),(⟨[],[],(⟨[]⟩:aD),(⟨[]⟩:aD),false,false,[],[],[]⟩:aS),[],[],[],[],[],(0:Int)⟩:ac)) (.map none) (.map none) (.map none)):=fun _=>⟨[.slice none 0 0],[.bool false,.bool false,.slice none 0 0,.string ⟨#[]⟩,.string ⟨#[]⟩,.slice none 0 0,.slice none 0 0,.slice none 0 0,.slice none 0 0,.slice none 0 0,.slice none 0 0,.slice none 0 0,.slice none 0 0,.bool false,.bool false,.slice none 0 0,.slice none 0 0,.slice none 0 0,.map none,.map none,.map none,.slice none 0 0,.slice none 0 0,.int .i64 0],rfl,pE _,⟨[.bool false,.bool false,.slice none 0 0,.string ⟨#[]⟩,.string ⟨#[]⟩,.slice none 0 0,.slice none 0 0,.slice none 0 0,.slice none 0 0],[.slice none 0 0,.slice none 0 0,.slice none 0 0,.slice none 0 0,.bool false,.bool false,.slice none 0 0,.slice none 0 0,.slice none 0 0,.map none,.map none,.map none,.slice none 0 0,.slice none 0 0,.int .i64 0],rfl,AS _,⟨[.slice none 0 0,.slice none 0 0,.slice none 0 0,.slice none 0 0,.bool false,.bool false,.slice none 0 0,.slice none 0 0,.slice none 0 0],[.map none,.map none,.map none,.slice none 0 0,.slice none 0 0,.int .i64 0],rfl,Ka _,⟨[.map none],[.map none,.map none,.slice none 0 0,.slice none 0 0,.int .i64 0],rfl,⟨rfl,rfl⟩,⟨[.map none],[.map none,.slice none 0 0,.slice none 0 0,.int .i64 0],rfl,⟨rfl,rfl⟩,⟨[.map none],[.slice none 0 0,.slice none 0 0,.int .i64 0],rfl,⟨rfl,rfl⟩,⟨[.slice none 0 0],[.slice none 0 0,.int .i64 0],rfl,⟨none,0,rfl,eO _,ij _,.inl rfl⟩,⟨[.slice none 0 0],[.int .i64 0],rfl,⟨none,0,rfl,eO _,ij _,.inl rfl⟩,rfl⟩⟩⟩⟩⟩⟩⟩⟩
def Ay{S:SH}{cs:List Value}{y:aq}{v0:Value}{xs0:(List bp)}(k0:(ek cD).rc S [v0] xs0)(h:gD.rc S cs (jo y v0)):bX.rc S cs ((⟨xs0⟩:aq)):=by
 have h0:=h
 exact(by rw [h0.1];exact k0)
def CI{S:SH}{cs:List Value}{y:aN}{v0:Value}{xs0:(List al)}(k0:(ek aB).rc S [v0] xs0)(h:gC.rc S cs (ja y v0)):bd.rc S cs ((⟨xs0,y.Keys,y.Limit⟩:aN)):=by
 obtain⟨a0,b0,e0,h0,a1,b1,e1,A,D⟩:=h
 exact⟨a0,b0,e0,(by rw [h0.1];exact k0),a1,b1,e1,A,D⟩
def Ax{S:SH}{cs:List Value}{y:aN}{v0:Value}{v1:Value}{xs0:(List al)}(k0:(ek aB).rc S [v0] xs0){xs1:(List lT)}(k1:(ek d5).rc S [v1] xs1)(h:cx.rc S cs (c0 y v0 v1)):bd.rc S cs ((⟨xs0,xs1,y.Limit⟩:aN)):=by
 obtain⟨a0,b0,e0,h0,a1,b1,e1,A,D⟩:=h
 exact⟨a0,b0,e0,(by rw [h0.1];exact k0),a1,b1,e1,(by rw [A.1];exact k1),D⟩
def xT{S:SH}{cs:List Value}{y:aQ}{v0:Value}{v2:Value}{v3:Value}{xs0:(List aS)}(k0:(ek cv).rc S [v0] xs0){xs2:(List Int)}(k2:(ek (rI .i64)).rc S [v2] xs2){xs3:(List zz)}(k3:(ek nX).rc S [v3] xs3)(h:bT.rc S cs (cU y v0 v2 v3)):cX.rc S cs ((⟨xs0,y.Names,xs2,xs3,y.Limit⟩:aQ)):=by
 obtain⟨a0,b0,e0,h0,a1,b1,e1,A,a2,b2,e2,D,a3,b3,e3,h3,h4⟩:=h
 exact⟨a0,b0,e0,(by rw [h0.1];exact k0),a1,b1,e1,A,a2,b2,e2,(by rw [D.1];exact k2),a3,b3,e3,(by rw [h3.1];exact k3),h4⟩
def EL{S:SH}{cs:List Value}{y:ce}{v0:Value}{xs0:(List cj)}(k0:(ek cB).rc S [v0] xs0)(h:jU.rc S cs (lV y v0)):aY.rc S cs ((⟨xs0⟩:ce)):=by
 have h0:=h
 exact(by rw [h0.1];exact k0)
def sm{S:SH}{cs:List Value}{y:al}{v2:Value}{v4:Value}{xs2:(List eh)}(k2:(ek cF).rc S [v2] xs2){xs4:(List kw)}(k4:(ek dm).rc S [v4] xs4)(h:bW.rc S cs (cZ y v2 v4)):aB.rc S cs ((⟨y.Distinct,y.Star,xs2,y.From,xs4,y.Where,y.Having,y.Group⟩:al)):=by
 obtain⟨a0,b0,e0,h0,a1,b1,e1,A,a2,b2,e2,D,a3,b3,e3,h3,a4,b4,e4,h4,a5,b5,e5,h5,a6,b6,e6,h6,h7⟩:=h
 exact⟨a0,b0,e0,h0,a1,b1,e1,A,a2,b2,e2,(by rw [D.1];exact k2),a3,b3,e3,h3,a4,b4,e4,(by rw [h4.1];exact k4),a5,b5,e5,h5,a6,b6,e6,h6,h7⟩
def xS{S:SH}{cs:List Value}{y:ac}{v3:Value}{v4:Value}{v5:Value}{xs3:(List (bZ×Bool))}(k3:(Ok:Rp (List (bZ×Bool))).rc S [v3] xs3){xs4:(List (bZ×(List Int)))}(k4:(Ok:Rp (List (bZ×(List Int)))).rc S [v4] xs4){xs5:(List ((bZ×bZ)×Int))}(k5:(Ok:Rp (List ((bZ×bZ)×Int))).rc S [v5] xs5)(h:eG.rc S cs (pb y v3 v4 v5)):ax.rc S cs ((⟨y.Catalog,y.from_,y.out,xs3,xs4,xs5,y.kinds,y.groups,y.at_⟩:ac)):=by
 obtain⟨a0,b0,e0,h0,a1,b1,e1,A,a2,b2,e2,D,a3,b3,e3,h3,a4,b4,e4,h4,a5,b5,e5,h5,a6,b6,e6,h6,a7,b7,e7,h7,h8⟩:=h
 exact⟨a0,b0,e0,h0,a1,b1,e1,A,a2,b2,e2,D,a3,b3,e3,(by rw [h3.1];exact k3),a4,b4,e4,(by rw [h4.1];exact k4),a5,b5,e5,(by rw [h5.1];exact k5),a6,b6,e6,h6,a7,b7,e7,h7,h8⟩
def rP(y:aN)(v:Value):oz bd gC 0 rV (y) v (ja y v):=q8 (q9 (eJ rfl) rfl) rfl
def ux(y:aN)(v0:Value)(v:Value):oz gC cx 1 rV (ja y v0) v (c0 y v0 v):=q8 (mY (q9 (eJ rfl) rfl) rfl) rfl
def tB(y:aN)(v1:Value)(u:Value)(v:Value):oz cx cx 0 rV (c0 y u v1) v (c0 y v v1):=q8 (q9 (eJ rfl) rfl) rfl
def tA(y:aN)(v0:Value)(u:Value)(v:Value):oz cx cx 1 rV (c0 y v0 u) v (c0 y v0 v):=q8 (mY (q9 (eJ rfl) rfl) rfl) rfl
def qH(y:aQ)(v2:Value)(v3:Value)(u:Value)(v:Value):oz bT bT 0 rV (cU y u v2 v3) v (cU y v v2 v3):=q8 (q9 (eJ rfl) rfl) rfl
def qG(y:aQ)(v0:Value)(v3:Value)(u:Value)(v:Value):oz bT bT 2 rV (cU y v0 u v3) v (cU y v0 v v3):=q8 (mY (mY (q9 (eJ rfl) rfl) rfl) rfl) rfl
def qF(y:aQ)(v0:Value)(v2:Value)(u:Value)(v:Value):oz bT bT 3 rV (cU y v0 v2 u) v (cU y v0 v2 v):=q8 (mY (mY (mY (q9 (eJ rfl) rfl) rfl) rfl) rfl) rfl
def qQ(y:al)(v:Value):oz aB BX 2 rV (y) v (Cd y v):=q8 (mY (mY (q9 (eJ rfl) rfl) rfl) rfl) rfl
def ol(y:al)(v2:Value)(v:Value):oz BX bW 5 rV (Cd y v2) v (cZ y v2 v):=q8 (mY (mY (mY (mY (q9 (eJ rfl) rfl) rfl) rfl) rfl) rfl) rfl
def cA(b:Nat)(x:ac)(i:OI):List OE:=[bx (rH ax [(10,Y (i.h 0).1 (i.h 0).2 x.out.Tables.length),(11,Y (i.h 1).1 (i.h 1).2 x.out.Joins.length),(16,Y (i.h 2).1 (i.h 2).2 x.out.Keys.length),(17,Y (i.h 3).1 (i.h 3).2 x.out.Aggs.length),(18,Y (i.h 4).1 (i.h 4).2 x.out.Items.length),(22,Y (i.h 5).1 (i.h 5).2 x.kinds.length),(23,Y (i.h 6).1 (i.h 6).2 x.groups.length),(19,ak (i.h 7).2),(20,ak (i.h 8).2),(21,ak (i.h 9).2)]) 127 b x,Z (rI .i64) 3 (i.h 0).1 (i.h 0).2 x.out.Tables,Z aF 71 (i.h 1).1 (i.h 1).2 x.out.Joins,Z (rI .i64) 3 (i.h 2).1 (i.h 2).2 x.out.Keys,Z aU 73 (i.h 3).1 (i.h 3).2 x.out.Aggs,Z ae 62 (i.h 4).1 (i.h 4).2 x.out.Items,Z (rI .i64) 3 (i.h 5).1 (i.h 5).2 x.kinds,Z (rI .i64) 3 (i.h 6).1 (i.h 6).2 x.groups,bo (Hw (fun y:Bool=>K rB y)) dp (i.h 7).2 none (i.oss 0) x.called,bo (T0 (rI .i64) 3) dp (i.h 8).2 none (i.oss 1) x.alone,dE (fun y:Int=>K (rI .i64) y) jc (i.h 9).2 x.behind]
def Wt{hb:HL}{y:ac}{v3 v4 v5:Value}{S:SH}{u:Value}(h:(K (rH eG hb) (pb y v3 v4 v5)).p S u)(k3:v3.oneCell' =true)(k4:v4.oneCell' =true)(k5:v5.oneCell' =true):(K (rH ax (hb++[(19,v3),(20,v4),(21,v5)])) (⟨y.Catalog,y.from_,y.out,[],[],[],y.kinds,y.groups,y.at_⟩:ac)).p S u:=by
 obtain⟨cs,e,A,D⟩:=h
 refine⟨cs,e,xS ⟨_,rfl,k3⟩ ⟨_,rfl,k4⟩ ⟨_,rfl,k5⟩ A,fun p hp=>?_⟩
 rcases xK.1 hp with hp|hp
 ·exact D p hp
 ·simp only [eW,List.not_mem_nil,or_false]at hp
  rcases hp with rfl|rfl|rfl
  ·have h3:=QO Bp A
   exact h3
  ·have h3:=QO Bo A
   exact h3
  ·have h3:=QO Bn A
   exact h3
def U6:(List GO):=[(⟨[98,111,111,108],(1:Int)⟩:GO),(⟨[105,110,116],(2:Int)⟩:GO),(⟨[116,101,120,116],(3:Int)⟩:GO)]
def gm0:((0:Nat),([.string ⟨([98,111,111,108]:List UInt8).toArray⟩,.int .i64 (1),.string ⟨([105,110,116]:List UInt8).toArray⟩,.int .i64 (2),.string ⟨([116,101,120,116]:List UInt8).toArray⟩,.int .i64 (3)]:List Value))∈glob:=by simp [glob]
def gr0: ∀S,(o8 wZ 3).rc S ([.string ⟨([98,111,111,108]:List UInt8).toArray⟩,.int .i64 (1),.string ⟨([105,110,116]:List UInt8).toArray⟩,.int .i64 (2),.string ⟨([116,101,120,116]:List UInt8).toArray⟩,.int .i64 (3)]:List Value) U6:=fun _=>⟨rfl,⟨[.string ⟨([98,111,111,108]:List UInt8).toArray⟩,.int .i64 (1)],[.string ⟨([105,110,116]:List UInt8).toArray⟩,.int .i64 (2),.string ⟨([116,101,120,116]:List UInt8).toArray⟩,.int .i64 (3)],rfl,⟨[.string ⟨([98,111,111,108]:List UInt8).toArray⟩],[.int .i64 (1)],rfl,rfl,rfl⟩,⟨[.string ⟨([105,110,116]:List UInt8).toArray⟩,.int .i64 (2)],[.string ⟨([116,101,120,116]:List UInt8).toArray⟩,.int .i64 (3)],rfl,⟨[.string ⟨([105,110,116]:List UInt8).toArray⟩],[.int .i64 (2)],rfl,rfl,rfl⟩,⟨[.string ⟨([116,101,120,116]:List UInt8).toArray⟩,.int .i64 (3)],[],rfl,⟨[.string ⟨([116,101,120,116]:List UInt8).toArray⟩],[.int .i64 (3)],rfl,rfl,rfl⟩,(rfl:_=[])⟩⟩⟩⟩
def U5:(List bZ):=[[83,69,76,69,67,84],[68,73,83,84,73,78,67,84],[70,82,79,77],[76,69,70,84],[74,79,73,78],[79,78],[87,72,69,82,69],[71,82,79,85,80],[66,89],[72,65,86,73,78,71],[85,78,73,79,78],[65,76,76],[79,82,68,69,82],[76,73,77,73,84],[65,83,67],[68,69,83,67],[65,83],[65,78,68],[79,82],[78,79,84],[73,83],[78,85,76,76],[84,82,85,69],[70,65,76,83,69],[67,79,85,78,84],[83,85,77],[77,73,78],[77,65,88]]
def gm1:((1:Nat),([.string ⟨([83,69,76,69,67,84]:List UInt8).toArray⟩,.string ⟨([68,73,83,84,73,78,67,84]:List UInt8).toArray⟩,.string ⟨([70,82,79,77]:List UInt8).toArray⟩,.string ⟨([76,69,70,84]:List UInt8).toArray⟩,.string ⟨([74,79,73,78]:List UInt8).toArray⟩,.string ⟨([79,78]:List UInt8).toArray⟩,.string ⟨([87,72,69,82,69]:List UInt8).toArray⟩,.string ⟨([71,82,79,85,80]:List UInt8).toArray⟩,.string ⟨([66,89]:List UInt8).toArray⟩,.string ⟨([72,65,86,73,78,71]:List UInt8).toArray⟩,.string ⟨([85,78,73,79,78]:List UInt8).toArray⟩,.string ⟨([65,76,76]:List UInt8).toArray⟩,.string ⟨([79,82,68,69,82]:List UInt8).toArray⟩,.string ⟨([76,73,77,73,84]:List UInt8).toArray⟩,.string ⟨([65,83,67]:List UInt8).toArray⟩,.string ⟨([68,69,83,67]:List UInt8).toArray⟩,.string ⟨([65,83]:List UInt8).toArray⟩,.string ⟨([65,78,68]:List UInt8).toArray⟩,.string ⟨([79,82]:List UInt8).toArray⟩,.string ⟨([78,79,84]:List UInt8).toArray⟩,.string ⟨([73,83]:List UInt8).toArray⟩,.string ⟨([78,85,76,76]:List UInt8).toArray⟩,.string ⟨([84,82,85,69]:List UInt8).toArray⟩,.string ⟨([70,65,76,83,69]:List UInt8).toArray⟩,.string ⟨([67,79,85,78,84]:List UInt8).toArray⟩,.string ⟨([83,85,77]:List UInt8).toArray⟩,.string ⟨([77,73,78]:List UInt8).toArray⟩,.string ⟨([77,65,88]:List UInt8).toArray⟩]:List Value))∈glob:=by simp [glob]
def gr1: ∀S,(o8 rS 28).rc S ([.string ⟨([83,69,76,69,67,84]:List UInt8).toArray⟩,.string ⟨([68,73,83,84,73,78,67,84]:List UInt8).toArray⟩,.string ⟨([70,82,79,77]:List UInt8).toArray⟩,.string ⟨([76,69,70,84]:List UInt8).toArray⟩,.string ⟨([74,79,73,78]:List UInt8).toArray⟩,.string ⟨([79,78]:List UInt8).toArray⟩,.string ⟨([87,72,69,82,69]:List UInt8).toArray⟩,.string ⟨([71,82,79,85,80]:List UInt8).toArray⟩,.string ⟨([66,89]:List UInt8).toArray⟩,.string ⟨([72,65,86,73,78,71]:List UInt8).toArray⟩,.string ⟨([85,78,73,79,78]:List UInt8).toArray⟩,.string ⟨([65,76,76]:List UInt8).toArray⟩,.string ⟨([79,82,68,69,82]:List UInt8).toArray⟩,.string ⟨([76,73,77,73,84]:List UInt8).toArray⟩,.string ⟨([65,83,67]:List UInt8).toArray⟩,.string ⟨([68,69,83,67]:List UInt8).toArray⟩,.string ⟨([65,83]:List UInt8).toArray⟩,.string ⟨([65,78,68]:List UInt8).toArray⟩,.string ⟨([79,82]:List UInt8).toArray⟩,.string ⟨([78,79,84]:List UInt8).toArray⟩,.string ⟨([73,83]:List UInt8).toArray⟩,.string ⟨([78,85,76,76]:List UInt8).toArray⟩,.string ⟨([84,82,85,69]:List UInt8).toArray⟩,.string ⟨([70,65,76,83,69]:List UInt8).toArray⟩,.string ⟨([67,79,85,78,84]:List UInt8).toArray⟩,.string ⟨([83,85,77]:List UInt8).toArray⟩,.string ⟨([77,73,78]:List UInt8).toArray⟩,.string ⟨([77,65,88]:List UInt8).toArray⟩]:List Value) U5:=fun _=>⟨rfl,⟨[.string ⟨([83,69,76,69,67,84]:List UInt8).toArray⟩],[.string ⟨([68,73,83,84,73,78,67,84]:List UInt8).toArray⟩,.string ⟨([70,82,79,77]:List UInt8).toArray⟩,.string ⟨([76,69,70,84]:List UInt8).toArray⟩,.string ⟨([74,79,73,78]:List UInt8).toArray⟩,.string ⟨([79,78]:List UInt8).toArray⟩,.string ⟨([87,72,69,82,69]:List UInt8).toArray⟩,.string ⟨([71,82,79,85,80]:List UInt8).toArray⟩,.string ⟨([66,89]:List UInt8).toArray⟩,.string ⟨([72,65,86,73,78,71]:List UInt8).toArray⟩,.string ⟨([85,78,73,79,78]:List UInt8).toArray⟩,.string ⟨([65,76,76]:List UInt8).toArray⟩,.string ⟨([79,82,68,69,82]:List UInt8).toArray⟩,.string ⟨([76,73,77,73,84]:List UInt8).toArray⟩,.string ⟨([65,83,67]:List UInt8).toArray⟩,.string ⟨([68,69,83,67]:List UInt8).toArray⟩,.string ⟨([65,83]:List UInt8).toArray⟩,.string ⟨([65,78,68]:List UInt8).toArray⟩,.string ⟨([79,82]:List UInt8).toArray⟩,.string ⟨([78,79,84]:List UInt8).toArray⟩,.string ⟨([73,83]:List UInt8).toArray⟩,.string ⟨([78,85,76,76]:List UInt8).toArray⟩,.string ⟨([84,82,85,69]:List UInt8).toArray⟩,.string ⟨([70,65,76,83,69]:List UInt8).toArray⟩,.string ⟨([67,79,85,78,84]:List UInt8).toArray⟩,.string ⟨([83,85,77]:List UInt8).toArray⟩,.string ⟨([77,73,78]:List UInt8).toArray⟩,.string ⟨([77,65,88]:List UInt8).toArray⟩],rfl,rfl,⟨[.string ⟨([68,73,83,84,73,78,67,84]:List UInt8).toArray⟩],[.string ⟨([70,82,79,77]:List UInt8).toArray⟩,.string ⟨([76,69,70,84]:List UInt8).toArray⟩,.string ⟨([74,79,73,78]:List UInt8).toArray⟩,.string ⟨([79,78]:List UInt8).toArray⟩,.string ⟨([87,72,69,82,69]:List UInt8).toArray⟩,.string ⟨([71,82,79,85,80]:List UInt8).toArray⟩,.string ⟨([66,89]:List UInt8).toArray⟩,.string ⟨([72,65,86,73,78,71]:List UInt8).toArray⟩,.string ⟨([85,78,73,79,78]:List UInt8).toArray⟩,.string ⟨([65,76,76]:List UInt8).toArray⟩,.string ⟨([79,82,68,69,82]:List UInt8).toArray⟩,.string ⟨([76,73,77,73,84]:List UInt8).toArray⟩,.string ⟨([65,83,67]:List UInt8).toArray⟩,.string ⟨([68,69,83,67]:List UInt8).toArray⟩,.string ⟨([65,83]:List UInt8).toArray⟩,.string ⟨([65,78,68]:List UInt8).toArray⟩,.string ⟨([79,82]:List UInt8).toArray⟩,.string ⟨([78,79,84]:List UInt8).toArray⟩,.string ⟨([73,83]:List UInt8).toArray⟩,.string ⟨([78,85,76,76]:List UInt8).toArray⟩,.string ⟨([84,82,85,69]:List UInt8).toArray⟩,.string ⟨([70,65,76,83,69]:List UInt8).toArray⟩,.string ⟨([67,79,85,78,84]:List UInt8).toArray⟩,.string ⟨([83,85,77]:List UInt8).toArray⟩,.string ⟨([77,73,78]:List UInt8).toArray⟩,.string ⟨([77,65,88]:List UInt8).toArray⟩],rfl,rfl,⟨[.string ⟨([70,82,79,77]:List UInt8).toArray⟩],[.string ⟨([76,69,70,84]:List UInt8).toArray⟩,.string ⟨([74,79,73,78]:List UInt8).toArray⟩,.string ⟨([79,78]:List UInt8).toArray⟩,.string ⟨([87,72,69,82,69]:List UInt8).toArray⟩,.string ⟨([71,82,79,85,80]:List UInt8).toArray⟩,.string ⟨([66,89]:List UInt8).toArray⟩,.string ⟨([72,65,86,73,78,71]:List UInt8).toArray⟩,.string ⟨([85,78,73,79,78]:List UInt8).toArray⟩,.string ⟨([65,76,76]:List UInt8).toArray⟩,.string ⟨([79,82,68,69,82]:List UInt8).toArray⟩,.string ⟨([76,73,77,73,84]:List UInt8).toArray⟩,.string ⟨([65,83,67]:List UInt8).toArray⟩,.string ⟨([68,69,83,67]:List UInt8).toArray⟩,.string ⟨([65,83]:List UInt8).toArray⟩,.string ⟨([65,78,68]:List UInt8).toArray⟩,.string ⟨([79,82]:List UInt8).toArray⟩,.string ⟨([78,79,84]:List UInt8).toArray⟩,.string ⟨([73,83]:List UInt8).toArray⟩,.string ⟨([78,85,76,76]:List UInt8).toArray⟩,.string ⟨([84,82,85,69]:List UInt8).toArray⟩,.string ⟨([70,65,76,83,69]:List UInt8).toArray⟩,.string ⟨([67,79,85,78,84]:List UInt8).toArray⟩,.string ⟨([83,85,77]:List UInt8).toArray⟩,.string ⟨([77,73,78]:List UInt8).toArray⟩,.string ⟨([77,65,88]:List UInt8).toArray⟩],rfl,rfl,⟨[.string ⟨([76,69,70,84]:List UInt8).toArray⟩],[.string ⟨([74,79,73,78]:List UInt8).toArray⟩,.string ⟨([79,78]:List UInt8).toArray⟩,.string ⟨([87,72,69,82,69]:List UInt8).toArray⟩,.string ⟨([71,82,79,85,80]:List UInt8).toArray⟩,.string ⟨([66,89]:List UInt8).toArray⟩,.string ⟨([72,65,86,73,78,71]:List UInt8).toArray⟩,.string ⟨([85,78,73,79,78]:List UInt8).toArray⟩,.string ⟨([65,76,76]:List UInt8).toArray⟩,.string ⟨([79,82,68,69,82]:List UInt8).toArray⟩,.string ⟨([76,73,77,73,84]:List UInt8).toArray⟩,.string ⟨([65,83,67]:List UInt8).toArray⟩,.string ⟨([68,69,83,67]:List UInt8).toArray⟩,.string ⟨([65,83]:List UInt8).toArray⟩,.string ⟨([65,78,68]:List UInt8).toArray⟩,.string ⟨([79,82]:List UInt8).toArray⟩,.string ⟨([78,79,84]:List UInt8).toArray⟩,.string ⟨([73,83]:List UInt8).toArray⟩,.string ⟨([78,85,76,76]:List UInt8).toArray⟩,.string ⟨([84,82,85,69]:List UInt8).toArray⟩,.string ⟨([70,65,76,83,69]:List UInt8).toArray⟩,.string ⟨([67,79,85,78,84]:List UInt8).toArray⟩,.string ⟨([83,85,77]:List UInt8).toArray⟩,.string ⟨([77,73,78]:List UInt8).toArray⟩,.string ⟨([77,65,88]:List UInt8).toArray⟩],rfl,rfl,⟨[.string ⟨([74,79,73,78]:List UInt8).toArray⟩],[.string ⟨([79,78]:List UInt8).toArray⟩,.string ⟨([87,72,69,82,69]:List UInt8).toArray⟩,.string ⟨([71,82,79,85,80]:List UInt8).toArray⟩,.string ⟨([66,89]:List UInt8).toArray⟩,.string ⟨([72,65,86,73,78,71]:List UInt8).toArray⟩,.string ⟨([85,78,73,79,78]:List UInt8).toArray⟩,.string ⟨([65,76,76]:List UInt8).toArray⟩,.string ⟨([79,82,68,69,82]:List UInt8).toArray⟩,.string ⟨([76,73,77,73,84]:List UInt8).toArray⟩,.string ⟨([65,83,67]:List UInt8).toArray⟩,.string ⟨([68,69,83,67]:List UInt8).toArray⟩,.string ⟨([65,83]:List UInt8).toArray⟩,.string ⟨([65,78,68]:List UInt8).toArray⟩,.string ⟨([79,82]:List UInt8).toArray⟩,.string ⟨([78,79,84]:List UInt8).toArray⟩,.string ⟨([73,83]:List UInt8).toArray⟩,.string ⟨([78,85,76,76]:List UInt8).toArray⟩,.string ⟨([84,82,85,69]:List UInt8).toArray⟩,.string ⟨([70,65,76,83,69]:List UInt8).toArray⟩,.string ⟨([67,79,85,78,84]:List UInt8).toArray⟩,.string ⟨([83,85,77]:List UInt8).toArray⟩,.string ⟨([77,73,78]:List UInt8).toArray⟩,.string ⟨([77,65,88]:List UInt8).toArray⟩],rfl,rfl,⟨[.string ⟨([79,78]:List UInt8).toArray⟩],[.string ⟨([87,72,69,82,69]:List UInt8).toArray⟩,.string ⟨([71,82,79,85,80]:List UInt8).toArray⟩,.string ⟨([66,89]:List UInt8).toArray⟩,.string ⟨([72,65,86,73,78,71]:List UInt8).toArray⟩,.string ⟨([85,78,73,79,78]:List UInt8).toArray⟩,.string ⟨([65,76,76]:List UInt8).toArray⟩,.string ⟨([79,82,68,69,82]:List UInt8).toArray⟩,.string ⟨([76,73,77,73,84]:List UInt8).toArray⟩,.string ⟨([65,83,67]:List UInt8).toArray⟩,.string ⟨([68,69,83,67]:List UInt8).toArray⟩,.string ⟨([65,83]:List UInt8).toArray⟩,.string ⟨([65,78,68]:List UInt8).toArray⟩,.string ⟨([79,82]:List UInt8).toArray⟩,.string ⟨([78,79,84]:List UInt8).toArray⟩,.string ⟨([73,83]:List UInt8).toArray⟩,.string ⟨([78,85,76,76]:List UInt8).toArray⟩,.string ⟨([84,82,85,69]:List UInt8).toArray⟩,.string ⟨([70,65,76,83,69]:List UInt8).toArray⟩,.string ⟨([67,79,85,78,84]:List UInt8).toArray⟩,.string ⟨([83,85,77]:List UInt8).toArray⟩,.string ⟨([77,73,78]:List UInt8).toArray⟩,.string ⟨([77,65,88]:List UInt8).toArray⟩],rfl,rfl,⟨[.string ⟨([87,72,69,82,69]:List UInt8).toArray⟩],[.string ⟨([71,82,79,85,80]:List UInt8).toArray⟩,.string ⟨([66,89]:List UInt8).toArray⟩,.string ⟨([72,65,86,73,78,71]:List UInt8).toArray⟩,.string ⟨([85,78,73,79,78]:List UInt8).toArray⟩,.string ⟨([65,76,76]:List UInt8).toArray⟩,.string ⟨([79,82,68,69,82]:List UInt8).toArray⟩,.string ⟨([76,73,77,73,84]:List UInt8).toArray⟩,.string ⟨([65,83,67]:List UInt8).toArray⟩,.string ⟨([68,69,83,67]:List UInt8).toArray⟩,.string ⟨([65,83]:List UInt8).toArray⟩,.string ⟨([65,78,68]:List UInt8).toArray⟩,.string ⟨([79,82]:List UInt8).toArray⟩,.string ⟨([78,79,84]:List UInt8).toArray⟩,.string ⟨([73,83]:List UInt8).toArray⟩,.string ⟨([78,85,76,76]:List UInt8).toArray⟩,.string ⟨([84,82,85,69]:List UInt8).toArray⟩,.string ⟨([70,65,76,83,69]:List UInt8).toArray⟩,.string ⟨([67,79,85,78,84]:List UInt8).toArray⟩,.string ⟨([83,85,77]:List UInt8).toArray⟩,.string ⟨([77,73,78]:List UInt8).toArray⟩,.string ⟨([77,65,88]:List UInt8).toArray⟩],rfl,rfl,⟨[.string ⟨([71,82,79,85,80]:List UInt8).toArray⟩],[.string ⟨([66,89]:List UInt8).toArray⟩,.string ⟨([72,65,86,73,78,71]:List UInt8).toArray⟩,.string ⟨([85,78,73,79,78]:List UInt8).toArray⟩,.string ⟨([65,76,76]:List UInt8).toArray⟩,.string ⟨([79,82,68,69,82]:List UInt8).toArray⟩,.string ⟨([76,73,77,73,84]:List UInt8).toArray⟩,.string ⟨([65,83,67]:List UInt8).toArray⟩,.string ⟨([68,69,83,67]:List UInt8).toArray⟩,.string ⟨([65,83]:List UInt8).toArray⟩,.string ⟨([65,78,68]:List UInt8).toArray⟩,.string ⟨([79,82]:List UInt8).toArray⟩,.string ⟨([78,79,84]:List UInt8).toArray⟩,.string ⟨([73,83]:List UInt8).toArray⟩,.string ⟨([78,85,76,76]:List UInt8).toArray⟩,.string ⟨([84,82,85,69]:List UInt8).toArray⟩,.string ⟨([70,65,76,83,69]:List UInt8).toArray⟩,.string ⟨([67,79,85,78,84]:List UInt8).toArray⟩,.string ⟨([83,85,77]:List UInt8).toArray⟩,.string ⟨([77,73,78]:List UInt8).toArray⟩,.string ⟨([77,65,88]:List UInt8).toArray⟩],rfl,rfl,⟨[.string ⟨([66,89]:List UInt8).toArray⟩],[.string ⟨([72,65,86,73,78,71]:List UInt8).toArray⟩,.string ⟨([85,78,73,79,78]:List UInt8).toArray⟩,.string ⟨([65,76,76]:List UInt8).toArray⟩,.string ⟨([79,82,68,69,82]:List UInt8).toArray⟩,.string ⟨([76,73,77,73,84]:List UInt8).toArray⟩,.string ⟨([65,83,67]:List UInt8).toArray⟩,.string ⟨([68,69,83,67]:List UInt8).toArray⟩,.string ⟨([65,83]:List UInt8).toArray⟩,.string ⟨([65,78,68]:List UInt8).toArray⟩,.string ⟨([79,82]:List UInt8).toArray⟩,.string ⟨([78,79,84]:List UInt8).toArray⟩,.string ⟨([73,83]:List UInt8).toArray⟩,.string ⟨([78,85,76,76]:List UInt8).toArray⟩,.string ⟨([84,82,85,69]:List UInt8).toArray⟩,.string ⟨([70,65,76,83,69]:List UInt8).toArray⟩,.string ⟨([67,79,85,78,84]:List UInt8).toArray⟩,.string ⟨([83,85,77]:List UInt8).toArray⟩,.string ⟨([77,73,78]:List UInt8).toArray⟩,.string ⟨([77,65,88]:List UInt8).toArray⟩],rfl,rfl,⟨[.string ⟨([72,65,86,73,78,71]:List UInt8).toArray⟩],[.string ⟨([85,78,73,79,78]:List UInt8).toArray⟩,.string ⟨([65,76,76]:List UInt8).toArray⟩,.string ⟨([79,82,68,69,82]:List UInt8).toArray⟩,.string ⟨([76,73,77,73,84]:List UInt8).toArray⟩,.string ⟨([65,83,67]:List UInt8).toArray⟩,.string ⟨([68,69,83,67]:List UInt8).toArray⟩,.string ⟨([65,83]:List UInt8).toArray⟩,.string ⟨([65,78,68]:List UInt8).toArray⟩,.string ⟨([79,82]:List UInt8).toArray⟩,.string ⟨([78,79,84]:List UInt8).toArray⟩,.string ⟨([73,83]:List UInt8).toArray⟩,.string ⟨([78,85,76,76]:List UInt8).toArray⟩,.string ⟨([84,82,85,69]:List UInt8).toArray⟩,.string ⟨([70,65,76,83,69]:List UInt8).toArray⟩,.string ⟨([67,79,85,78,84]:List UInt8).toArray⟩,.string ⟨([83,85,77]:List UInt8).toArray⟩,.string ⟨([77,73,78]:List UInt8).toArray⟩,.string ⟨([77,65,88]:List UInt8).toArray⟩],rfl,rfl,⟨[.string ⟨([85,78,73,79,78]:List UInt8).toArray⟩],[.string ⟨([65,76,76]:List UInt8).toArray⟩,.string ⟨([79,82,68,69,82]:List UInt8).toArray⟩,.string ⟨([76,73,77,73,84]:List UInt8).toArray⟩,.string ⟨([65,83,67]:List UInt8).toArray⟩,.string ⟨([68,69,83,67]:List UInt8).toArray⟩,.string ⟨([65,83]:List UInt8).toArray⟩,.string ⟨([65,78,68]:List UInt8).toArray⟩,.string ⟨([79,82]:List UInt8).toArray⟩,.string ⟨([78,79,84]:List UInt8).toArray⟩,.string ⟨([73,83]:List UInt8).toArray⟩,.string ⟨([78,85,76,76]:List UInt8).toArray⟩,.string ⟨([84,82,85,69]:List UInt8).toArray⟩,.string ⟨([70,65,76,83,69]:List UInt8).toArray⟩,.string ⟨([67,79,85,78,84]:List UInt8).toArray⟩,.string ⟨([83,85,77]:List UInt8).toArray⟩,.string ⟨([77,73,78]:List UInt8).toArray⟩,.string ⟨([77,65,88]:List UInt8).toArray⟩],rfl,rfl,⟨[.string ⟨([65,76,76]:List UInt8).toArray⟩],[.string ⟨([79,82,68,69,82]:List UInt8).toArray⟩,.string ⟨([76,73,77,73,84]:List UInt8).toArray⟩,.string ⟨([65,83,67]:List UInt8).toArray⟩,.string ⟨([68,69,83,67]:List UInt8).toArray⟩,.string ⟨([65,83]:List UInt8).toArray⟩,.string ⟨([65,78,68]:List UInt8).toArray⟩,.string ⟨([79,82]:List UInt8).toArray⟩,.string ⟨([78,79,84]:List UInt8).toArray⟩,.string ⟨([73,83]:List UInt8).toArray⟩,.string ⟨([78,85,76,76]:List UInt8).toArray⟩,.string ⟨([84,82,85,69]:List UInt8).toArray⟩,.string ⟨([70,65,76,83,69]:List UInt8).toArray⟩,.string ⟨([67,79,85,78,84]:List UInt8).toArray⟩,.string ⟨([83,85,77]:List UInt8).toArray⟩,.string ⟨([77,73,78]:List UInt8).toArray⟩,.string ⟨([77,65,88]:List UInt8).toArray⟩],rfl,rfl,⟨[.string ⟨([79,82,68,69,82]:List UInt8).toArray⟩],[.string ⟨([76,73,77,73,84]:List UInt8).toArray⟩,.string ⟨([65,83,67]:List UInt8).toArray⟩,.string ⟨([68,69,83,67]:List UInt8).toArray⟩,.string ⟨([65,83]:List UInt8).toArray⟩,.string ⟨([65,78,68]:List UInt8).toArray⟩,.string ⟨([79,82]:List UInt8).toArray⟩,.string ⟨([78,79,84]:List UInt8).toArray⟩,.string ⟨([73,83]:List UInt8).toArray⟩,.string ⟨([78,85,76,76]:List UInt8).toArray⟩,.string ⟨([84,82,85,69]:List UInt8).toArray⟩,.string ⟨([70,65,76,83,69]:List UInt8).toArray⟩,.string ⟨([67,79,85,78,84]:List UInt8).toArray⟩,.string ⟨([83,85,77]:List UInt8).toArray⟩,.string ⟨([77,73,78]:List UInt8).toArray⟩,.string ⟨([77,65,88]:List UInt8).toArray⟩],rfl,rfl,⟨[.string ⟨([76,73,77,73,84]:List UInt8).toArray⟩],[.string ⟨([65,83,67]:List UInt8).toArray⟩,.string ⟨([68,69,83,67]:List UInt8).toArray⟩,.string ⟨([65,83]:List UInt8).toArray⟩,.string ⟨([65,78,68]:List UInt8).toArray⟩,.string ⟨([79,82]:List UInt8).toArray⟩,.string ⟨([78,79,84]:List UInt8).toArray⟩,.string ⟨([73,83]:List UInt8).toArray⟩,.string ⟨([78,85,76,76]:List UInt8).toArray⟩,.string ⟨([84,82,85,69]:List UInt8).toArray⟩,.string ⟨([70,65,76,83,69]:List UInt8).toArray⟩,.string ⟨([67,79,85,78,84]:List UInt8).toArray⟩,.string ⟨([83,85,77]:List UInt8).toArray⟩,.string ⟨([77,73,78]:List UInt8).toArray⟩,.string ⟨([77,65,88]:List UInt8).toArray⟩],rfl,rfl,⟨[.string ⟨([65,83,67]:List UInt8).toArray⟩],[.string ⟨([68,69,83,67]:List UInt8).toArray⟩,.string ⟨([65,83]:List UInt8).toArray⟩,.string ⟨([65,78,68]:List UInt8).toArray⟩,.string ⟨([79,82]:List UInt8).toArray⟩,.string ⟨([78,79,84]:List UInt8).toArray⟩,.string ⟨([73,83]:List UInt8).toArray⟩,.string ⟨([78,85,76,76]:List UInt8).toArray⟩,.string ⟨([84,82,85,69]:List UInt8).toArray⟩,.string ⟨([70,65,76,83,69]:List UInt8).toArray⟩,.string ⟨([67,79,85,78,84]:List UInt8).toArray⟩,.string ⟨([83,85,77]:List UInt8).toArray⟩,.string ⟨([77,73,78]:List UInt8).toArray⟩,.string ⟨([77,65,88]:List UInt8).toArray⟩],rfl,rfl,⟨[.string ⟨([68,69,83,67]:List UInt8).toArray⟩],[.string ⟨([65,83]:List UInt8).toArray⟩,.string ⟨([65,78,68]:List UInt8).toArray⟩,.string ⟨([79,82]:List UInt8).toArray⟩,.string ⟨([78,79,84]:List UInt8).toArray⟩,.string ⟨([73,83]:List UInt8).toArray⟩,.string ⟨([78,85,76,76]:List UInt8).toArray⟩,.string ⟨([84,82,85,69]:List UInt8).toArray⟩,.string ⟨([70,65,76,83,69]:List UInt8).toArray⟩,.string ⟨([67,79,85,78,84]:List UInt8).toArray⟩,.string ⟨([83,85,77]:List UInt8).toArray⟩,.string ⟨([77,73,78]:List UInt8).toArray⟩,.string ⟨([77,65,88]:List UInt8).toArray⟩],rfl,rfl,⟨[.string ⟨([65,83]:List UInt8).toArray⟩],[.string ⟨([65,78,68]:List UInt8).toArray⟩,.string ⟨([79,82]:List UInt8).toArray⟩,.string ⟨([78,79,84]:List UInt8).toArray⟩,.string ⟨([73,83]:List UInt8).toArray⟩,.string ⟨([78,85,76,76]:List UInt8).toArray⟩,.string ⟨([84,82,85,69]:List UInt8).toArray⟩,.string ⟨([70,65,76,83,69]:List UInt8).toArray⟩,.string ⟨([67,79,85,78,84]:List UInt8).toArray⟩,.string ⟨([83,85,77]:List UInt8).toArray⟩,.string ⟨([77,73,78]:List UInt8).toArray⟩,.string ⟨([77,65,88]:List UInt8).toArray⟩],rfl,rfl,⟨[.string ⟨([65,78,68]:List UInt8).toArray⟩],[.string ⟨([79,82]:List UInt8).toArray⟩,.string ⟨([78,79,84]:List UInt8).toArray⟩,.string ⟨([73,83]:List UInt8).toArray⟩,.string ⟨([78,85,76,76]:List UInt8).toArray⟩,.string ⟨([84,82,85,69]:List UInt8).toArray⟩,.string ⟨([70,65,76,83,69]:List UInt8).toArray⟩,.string ⟨([67,79,85,78,84]:List UInt8).toArray⟩,.string ⟨([83,85,77]:List UInt8).toArray⟩,.string ⟨([77,73,78]:List UInt8).toArray⟩,.string ⟨([77,65,88]:List UInt8).toArray⟩],rfl,rfl,⟨[.string ⟨([79,82]:List UInt8).toArray⟩],[.string ⟨([78,79,84]:List UInt8).toArray⟩,.string ⟨([73,83]:List UInt8).toArray⟩,.string ⟨([78,85,76,76]:List UInt8).toArray⟩,.string ⟨([84,82,85,69]:List UInt8).toArray⟩,.string ⟨([70,65,76,83,69]:List UInt8).toArray⟩,.string ⟨([67,79,85,78,84]:List UInt8).toArray⟩,.string ⟨([83,85,77]:List UInt8).toArray⟩,.string ⟨([77,73,78]:List UInt8).toArray⟩,.string ⟨([77,65,88]:List UInt8).toArray⟩],rfl,rfl,⟨[.string ⟨([78,79,84]:List UInt8).toArray⟩],[.string ⟨([73,83]:List UInt8).toArray⟩,.string ⟨([78,85,76,76]:List UInt8).toArray⟩,.string ⟨([84,82,85,69]:List UInt8).toArray⟩,.string ⟨([70,65,76,83,69]:List UInt8).toArray⟩,.string ⟨([67,79,85,78,84]:List UInt8).toArray⟩,.string ⟨([83,85,77]:List UInt8).toArray⟩,.string ⟨([77,73,78]:List UInt8).toArray⟩,.string ⟨([77,65,88]:List UInt8).toArray⟩],rfl,rfl,⟨[.string ⟨([73,83]:List UInt8).toArray⟩],[.string ⟨([78,85,76,76]:List UInt8).toArray⟩,.string ⟨([84,82,85,69]:List UInt8).toArray⟩,.string ⟨([70,65,76,83,69]:List UInt8).toArray⟩,.string ⟨([67,79,85,78,84]:List UInt8).toArray⟩,.string ⟨([83,85,77]:List UInt8).toArray⟩,.string ⟨([77,73,78]:List UInt8).toArray⟩,.string ⟨([77,65,88]:List UInt8).toArray⟩],rfl,rfl,⟨[.string ⟨([78,85,76,76]:List UInt8).toArray⟩],[.string ⟨([84,82,85,69]:List UInt8).toArray⟩,.string ⟨([70,65,76,83,69]:List UInt8).toArray⟩,.string ⟨([67,79,85,78,84]:List UInt8).toArray⟩,.string ⟨([83,85,77]:List UInt8).toArray⟩,.string ⟨([77,73,78]:List UInt8).toArray⟩,.string ⟨([77,65,88]:List UInt8).toArray⟩],rfl,rfl,⟨[.string ⟨([84,82,85,69]:List UInt8).toArray⟩],[.string ⟨([70,65,76,83,69]:List UInt8).toArray⟩,.string ⟨([67,79,85,78,84]:List UInt8).toArray⟩,.string ⟨([83,85,77]:List UInt8).toArray⟩,.string ⟨([77,73,78]:List UInt8).toArray⟩,.string ⟨([77,65,88]:List UInt8).toArray⟩],rfl,rfl,⟨[.string ⟨([70,65,76,83,69]:List UInt8).toArray⟩],[.string ⟨([67,79,85,78,84]:List UInt8).toArray⟩,.string ⟨([83,85,77]:List UInt8).toArray⟩,.string ⟨([77,73,78]:List UInt8).toArray⟩,.string ⟨([77,65,88]:List UInt8).toArray⟩],rfl,rfl,⟨[.string ⟨([67,79,85,78,84]:List UInt8).toArray⟩],[.string ⟨([83,85,77]:List UInt8).toArray⟩,.string ⟨([77,73,78]:List UInt8).toArray⟩,.string ⟨([77,65,88]:List UInt8).toArray⟩],rfl,rfl,⟨[.string ⟨([83,85,77]:List UInt8).toArray⟩],[.string ⟨([77,73,78]:List UInt8).toArray⟩,.string ⟨([77,65,88]:List UInt8).toArray⟩],rfl,rfl,⟨[.string ⟨([77,73,78]:List UInt8).toArray⟩],[.string ⟨([77,65,88]:List UInt8).toArray⟩],rfl,rfl,⟨[.string ⟨([77,65,88]:List UInt8).toArray⟩],[],rfl,rfl,(rfl:_=[])⟩⟩⟩⟩⟩⟩⟩⟩⟩⟩⟩⟩⟩⟩⟩⟩⟩⟩⟩⟩⟩⟩⟩⟩⟩⟩⟩⟩⟩

end Go.Proofs.YthbdkceckjihgaaGreatDoor

