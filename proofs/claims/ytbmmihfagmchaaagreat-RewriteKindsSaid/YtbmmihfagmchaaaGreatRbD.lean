/- cP of this claim: D. -/
import Derived.Test.YtbmmihfagmchaaaGreatRbV3
import Derived.Test.YtbmmihfagmchaaaGreatRbV4
set_option linter.all false
namespace Go.Proofs.YtbmmihfagmchaaaGreat
open Go

structure bK where
 Kind:Int
 N:Int
 U:Int
 S:I6
 deriving DecidableEq,Inhabited
def dr:Rp bK:=nI (cq (rI .i64) (cq (rI .i64) (cq (rI .u64) rS))) (fun x=>(x.Kind,x.N,x.U,x.S))
def s9:mf dr 0 (rI .i64) (fun x=>x.Kind):=(eV df)
def qB:g9 dr 0 (rI .i64) (fun x y=>{x with Kind:=y}):=cL ee (fun _ _=>rfl)
def wc:mf dr 1 (rI .i64) (fun x=>x.N):=(eV (aF df rfl))
def sW:g9 dr 1 (rI .i64) (fun x y=>{x with N:=y}):=cL (aA ee rfl) (fun _ _=>rfl)
def Gi:mf dr 2 (rI .u64) (fun x=>x.U):=(eV (aF (aF df rfl) rfl))
def FL:g9 dr 2 (rI .u64) (fun x y=>{x with U:=y}):=cL (aA (aA ee rfl) rfl) (fun _ _=>rfl)
def s8:mf dr 3 rS (fun x=>x.S):=(aF (aF (aF df rfl) rfl) rfl)
def zW:g9 dr 3 rS (fun x y=>{x with S:=y}):=cL (aA (aA (aA ae rfl) rfl) rfl) (fun _ _=>rfl)
def mH: ∀S,dr.rc S [.int .i64 0,.int .i64 0,.int .u64 0,.string ⟨#[]⟩] ((⟨(0:Int),(0:Int),(0:Int),[]⟩:bK)):=fun _=>⟨[.int .i64 0],[.int .i64 0,.int .u64 0,.string ⟨#[]⟩],rfl,rfl,⟨[.int .i64 0],[.int .u64 0,.string ⟨#[]⟩],rfl,rfl,⟨[.int .u64 0],[.string ⟨#[]⟩],rfl,rfl,rfl⟩⟩⟩
structure aj where
 Tag:Int
 L:Int
 R:Int
 Col:Int
 Value:bK
 deriving DecidableEq,Inhabited
def ap:Rp aj:=nI (cq (rI .i64) (cq (rI .i64) (cq (rI .i64) (cq (rI .i64) dr)))) (fun x=>(x.Tag,x.L,x.R,x.Col,x.Value))
def ep:mf ap 0 (rI .i64) (fun x=>x.Tag):=(eV df)
def lP:g9 ap 0 (rI .i64) (fun x y=>{x with Tag:=y}):=cL ee (fun _ _=>rfl)
def kK:mf ap 1 (rI .i64) (fun x=>x.L):=(eV (aF df rfl))
def oN:g9 ap 1 (rI .i64) (fun x y=>{x with L:=y}):=cL (aA ee rfl) (fun _ _=>rfl)
def kI:mf ap 2 (rI .i64) (fun x=>x.R):=(eV (aF (aF df rfl) rfl))
def oM:g9 ap 2 (rI .i64) (fun x y=>{x with R:=y}):=cL (aA (aA ee rfl) rfl) (fun _ _=>rfl)
def gY:mf ap 3 (rI .i64) (fun x=>x.Col):=(eV (aF (aF (aF df rfl) rfl) rfl))
def vM:g9 ap 3 (rI .i64) (fun x y=>{x with Col:=y}):=cL (aA (aA (aA ee rfl) rfl) rfl) (fun _ _=>rfl)
def kH:mf ap 4 dr (fun x=>x.Value):=(aF (aF (aF (aF df rfl) rfl) rfl) rfl)
def z6:g9 ap 4 dr (fun x y=>{x with Value:=y}):=cL (aA (aA (aA (aA ae rfl) rfl) rfl) rfl) (fun _ _=>rfl)
def ip: ∀S,ap.rc S [.int .i64 0,.int .i64 0,.int .i64 0,.int .i64 0,.int .i64 0,.int .i64 0,.int .u64 0,.string ⟨#[]⟩] ((⟨(0:Int),(0:Int),(0:Int),(0:Int),(⟨(0:Int),(0:Int),(0:Int),[]⟩:bK)⟩:aj)):=fun _=>⟨[.int .i64 0],[.int .i64 0,.int .i64 0,.int .i64 0,.int .i64 0,.int .i64 0,.int .u64 0,.string ⟨#[]⟩],rfl,rfl,⟨[.int .i64 0],[.int .i64 0,.int .i64 0,.int .i64 0,.int .i64 0,.int .u64 0,.string ⟨#[]⟩],rfl,rfl,⟨[.int .i64 0],[.int .i64 0,.int .i64 0,.int .i64 0,.int .u64 0,.string ⟨#[]⟩],rfl,rfl,⟨[.int .i64 0],[.int .i64 0,.int .i64 0,.int .u64 0,.string ⟨#[]⟩],rfl,rfl,mH _⟩⟩⟩⟩
structure ai where
 Nodes:(List aj)
 deriving DecidableEq,Inhabited
def ah:Rp ai:=nI (gy ap) (fun x=>(x.Nodes))
def cE:mf ah 0 (gy ap) (fun x=>x.Nodes):=df
def qi:g9 ah 0 (gy ap) (fun x y=>{x with Nodes:=y}):=cL ae (fun _ _=>rfl)
def cF: ∀S,ah.rc S [.slice none 0 0] ((⟨[]⟩:ai)):=fun _=>⟨none,0,rfl,iQ _,mC _,.inl rfl⟩
structure ik where
 Tag:Int
 Arg:ai
 deriving DecidableEq,Inhabited
def dt:Rp ik:=nI (cq (rI .i64) ah) (fun x=>(x.Tag,x.Arg))
def AA:mf dt 0 (rI .i64) (fun x=>x.Tag):=(eV df)
def sF:mf dt 1 ah (fun x=>x.Arg):=(aF df rfl)
def DX:g9 dt 1 ah (fun x y=>{x with Arg:=y}):=cL (aA ae rfl) (fun _ _=>rfl)
def Ja: ∀S,dt.rc S [.int .i64 0,.slice none 0 0] ((⟨(0:Int),(⟨[]⟩:ai)⟩:ik)):=fun _=>⟨[.int .i64 0],[.slice none 0 0],rfl,rfl,cF _⟩
structure ly where
 Col:Int
 Desc:Bool
 deriving DecidableEq,Inhabited
def fU:Rp ly:=nI (cq (rI .i64) rB) (fun x=>(x.Col,x.Desc))
def EP:mf fU 0 (rI .i64) (fun x=>x.Col):=(eV df)
structure aa where
 Op:Int
 A:Int
 B:Int
 Table:Int
 Kinds:(List Int)
 Left:Bool
 Cond:ai
 Keys:(List Int)
 Aggs:(List ik)
 Items:(List ai)
 Order:(List ly)
 Limit:Int
 deriving DecidableEq,Inhabited
def ak:Rp aa:=nI (cq (rI .i64) (cq (rI .i64) (cq (rI .i64) (cq (rI .i64) (cq (gy (rI .i64)) (cq rB (cq ah (cq (gy (rI .i64)) (cq (gy dt) (cq (gy ah) (cq (gy fU) (rI .i64)))))))))))) (fun x=>(x.Op,x.A,x.B,x.Table,x.Kinds,x.Left,x.Cond,x.Keys,x.Aggs,x.Items,x.Order,x.Limit))
def fX:mf ak 0 (rI .i64) (fun x=>x.Op):=(eV df)
def lO:g9 ak 0 (rI .i64) (fun x y=>{x with Op:=y}):=cL ee (fun _ _=>rfl)
def fe:mf ak 1 (rI .i64) (fun x=>x.A):=(eV (aF df rfl))
def nc:g9 ak 1 (rI .i64) (fun x y=>{x with A:=y}):=cL (aA ee rfl) (fun _ _=>rfl)
def kG:mf ak 2 (rI .i64) (fun x=>x.B):=(eV (aF (aF df rfl) rfl))
def nb:g9 ak 2 (rI .i64) (fun x y=>{x with B:=y}):=cL (aA (aA ee rfl) rfl) (fun _ _=>rfl)
def ta:mf ak 3 (rI .i64) (fun x=>x.Table):=(eV (aF (aF (aF df rfl) rfl) rfl))
def zZ:g9 ak 3 (rI .i64) (fun x y=>{x with Table:=y}):=cL (aA (aA (aA ee rfl) rfl) rfl) (fun _ _=>rfl)
def ni:mf ak 4 (gy (rI .i64)) (fun x=>x.Kinds):=(eV (aF (aF (aF (aF df rfl) rfl) rfl) rfl))
def qC:g9 ak 4 (gy (rI .i64)) (fun x y=>{x with Kinds:=y}):=cL (aA (aA (aA (aA ee rfl) rfl) rfl) rfl) (fun _ _=>rfl)
def wd:mf ak 5 rB (fun x=>x.Left):=(eV (aF (aF (aF (aF (aF df rfl) rfl) rfl) rfl) rfl))
def zY:g9 ak 5 rB (fun x y=>{x with Left:=y}):=cL (aA (aA (aA (aA (aA ee rfl) rfl) rfl) rfl) rfl) (fun _ _=>rfl)
def fW:mf ak 6 ah (fun x=>x.Cond):=(eV (aF (aF (aF (aF (aF (aF df rfl) rfl) rfl) rfl) rfl) rfl))
def lN:g9 ak 6 ah (fun x y=>{x with Cond:=y}):=cL (aA (aA (aA (aA (aA (aA ee rfl) rfl) rfl) rfl) rfl) rfl) (fun _ _=>rfl)
def lY:mf ak 7 (gy (rI .i64)) (fun x=>x.Keys):=(eV (aF (aF (aF (aF (aF (aF (aF df rfl) rfl) rfl) rfl) rfl) rfl) rfl))
def vL:g9 ak 7 (gy (rI .i64)) (fun x y=>{x with Keys:=y}):=cL (aA (aA (aA (aA (aA (aA (aA ee rfl) rfl) rfl) rfl) rfl) rfl) rfl) (fun _ _=>rfl)
def nh:mf ak 8 (gy dt) (fun x=>x.Aggs):=(eV (aF (aF (aF (aF (aF (aF (aF (aF df rfl) rfl) rfl) rfl) rfl) rfl) rfl) rfl))
def FN:g9 ak 8 (gy dt) (fun x y=>{x with Aggs:=y}):=cL (aA (aA (aA (aA (aA (aA (aA (aA ee rfl) rfl) rfl) rfl) rfl) rfl) rfl) rfl) (fun _ _=>rfl)
def gX:mf ak 9 (gy ah) (fun x=>x.Items):=(eV (aF (aF (aF (aF (aF (aF (aF (aF (aF df rfl) rfl) rfl) rfl) rfl) rfl) rfl) rfl) rfl))
def zX:g9 ak 9 (gy ah) (fun x y=>{x with Items:=y}):=cL (aA (aA (aA (aA (aA (aA (aA (aA (aA ee rfl) rfl) rfl) rfl) rfl) rfl) rfl) rfl) rfl) (fun _ _=>rfl)
def lZ:mf ak 10 (gy fU) (fun x=>x.Order):=(eV (aF (aF (aF (aF (aF (aF (aF (aF (aF (aF df rfl) rfl) rfl) rfl) rfl) rfl) rfl) rfl) rfl) rfl))
def yB:g9 ak 10 (gy fU) (fun x y=>{x with Order:=y}):=cL (aA (aA (aA (aA (aA (aA (aA (aA (aA (aA ee rfl) rfl) rfl) rfl) rfl) rfl) rfl) rfl) rfl) rfl) (fun _ _=>rfl)
def uv:mf ak 11 (rI .i64) (fun x=>x.Limit):=(aF (aF (aF (aF (aF (aF (aF (aF (aF (aF (aF df rfl) rfl) rfl) rfl) rfl) rfl) rfl) rfl) rfl) rfl) rfl)
def DW:g9 ak 11 (rI .i64) (fun x y=>{x with Limit:=y}):=cL (aA (aA (aA (aA (aA (aA (aA (aA (aA (aA (aA ae rfl) rfl) rfl) rfl) rfl) rfl) rfl) rfl) rfl) rfl) rfl) (fun _ _=>rfl)
def io: ∀S,ak.rc S [.int .i64 0,.int .i64 0,.int .i64 0,.int .i64 0,.slice none 0 0,.bool false,.slice none 0 0,.slice none 0 0,.slice none 0 0,.slice none 0 0,.slice none 0 0,.int .i64 0] ((⟨(0:Int),(0:Int),(0:Int),(0:Int),[],false,(⟨[]⟩:ai),[],[],[],[],(0:Int)⟩:aa)):=fun _=>⟨[.int .i64 0],[.int .i64 0,.int .i64 0,.int .i64 0,.slice none 0 0,.bool false,.slice none 0 0,.slice none 0 0,.slice none 0 0,.slice none 0 0,.slice none 0 0,.int .i64 0],rfl,rfl,⟨[.int .i64 0],[.int .i64 0,.int .i64 0,.slice none 0 0,.bool false,.slice none 0 0,.slice none 0 0,.slice none 0 0,.slice none 0 0,.slice none 0 0,.int .i64 0],rfl,rfl,⟨[.int .i64 0],[.int .i64 0,.slice none 0 0,.bool false,.slice none 0 0,.slice none 0 0,.slice none 0 0,.slice none 0 0,.slice none 0 0,.int .i64 0],rfl,rfl,⟨[.int .i64 0],[.slice none 0 0,.bool false,.slice none 0 0,.slice none 0 0,.slice none 0 0,.slice none 0 0,.slice none 0 0,.int .i64 0],rfl,rfl,⟨[.slice none 0 0],[.bool false,.slice none 0 0,.slice none 0 0,.slice none 0 0,.slice none 0 0,.slice none 0 0,.int .i64 0],rfl,⟨none,0,rfl,iQ _,mC _,.inl rfl⟩,⟨[.bool false],[.slice none 0 0,.slice none 0 0,.slice none 0 0,.slice none 0 0,.slice none 0 0,.int .i64 0],rfl,rfl,⟨[.slice none 0 0],[.slice none 0 0,.slice none 0 0,.slice none 0 0,.slice none 0 0,.int .i64 0],rfl,cF _,⟨[.slice none 0 0],[.slice none 0 0,.slice none 0 0,.slice none 0 0,.int .i64 0],rfl,⟨none,0,rfl,iQ _,mC _,.inl rfl⟩,⟨[.slice none 0 0],[.slice none 0 0,.slice none 0 0,.int .i64 0],rfl,⟨none,0,rfl,iQ _,mC _,.inl rfl⟩,⟨[.slice none 0 0],[.slice none 0 0,.int .i64 0],rfl,⟨none,0,rfl,iQ _,mC _,.inl rfl⟩,⟨[.slice none 0 0],[.int .i64 0],rfl,⟨none,0,rfl,iQ _,mC _,.inl rfl⟩,rfl⟩⟩⟩⟩⟩⟩⟩⟩⟩⟩⟩
structure aw where
 Nodes:(List aa)
 deriving DecidableEq,Inhabited
def ay:Rp aw:=nI (gy ak) (fun x=>(x.Nodes))
def d5:mf ay 0 (gy ak) (fun x=>x.Nodes):=df
def FM:g9 ay 0 (gy ak) (fun x y=>{x with Nodes:=y}):=cL ae (fun _ _=>rfl)
def ec: ∀S,ay.rc S [.slice none 0 0] ((⟨[]⟩:aw)):=fun _=>⟨none,0,rfl,iQ _,mC _,.inl rfl⟩
structure am where
 Logic:aw
 root:aa
 parts:(List am)
 deriving Inhabited
def G6:RM 14 (fun r:Rp am=>nI (cq ay (cq ak (gy r))) (fun x:am=>(x.Logic,x.root,x.parts))):=RM.map _ (HD (RM.const ay) (HD (RM.const ak) RM.sl))
def an:Rp am:=JC G6 rfl
def sY:Rp am:=nI (cq ay (cq ak (gy an))) (fun x=>(x.Logic,x.root,x.parts))
def ri: ∀S cs x,an.rc S cs x↔sY.rc S cs x:=JB G6 rfl
def ql:mf an 0 ay (fun x=>x.Logic):=CX ri (r' :=sY) (eV df)
def H7:g9 an 0 ay (fun x y=>{x with Logic:=y}):=zS ri (r' :=sY) (cL ee (fun _ _=>rfl))
def dP:mf an 1 ak (fun x=>x.root):=CX ri (r' :=sY) (eV (aF df rfl))
def H6:g9 an 1 ak (fun x y=>{x with root:=y}):=zS ri (r' :=sY) (cL (aA ee rfl) (fun _ _=>rfl))
def gG:mf an 13 (gy an) (fun x=>x.parts):=CX ri (r' :=sY) (aF (aF df rfl) rfl)
def H5:g9 an 13 (gy an) (fun x y=>{x with parts:=y}):=zS ri (r' :=sY) (cL (aA (aA ae rfl) rfl) (fun _ _=>rfl))
def eG: ∀S,an.rc S [.slice none 0 0,.int .i64 0,.int .i64 0,.int .i64 0,.int .i64 0,.slice none 0 0,.bool false,.slice none 0 0,.slice none 0 0,.slice none 0 0,.slice none 0 0,.slice none 0 0,.int .i64 0,.slice none 0 0] ((⟨(⟨[]⟩:aw),(⟨(0:Int),(0:Int),(0:Int),(0:Int),[],false,(⟨[]⟩:ai),[],[],[],[],(0:Int)⟩:aa),[]⟩:am)):=fun _=>(ri _ _ _).2 (⟨[.slice none 0 0],[.int .i64 0,.int .i64 0,.int .i64 0,.int .i64 0,.slice none 0 0,.bool false,.slice none 0 0,.slice none 0 0,.slice none 0 0,.slice none 0 0,.slice none 0 0,.int .i64 0,.slice none 0 0],rfl,ec _,⟨[.int .i64 0,.int .i64 0,.int .i64 0,.int .i64 0,.slice none 0 0,.bool false,.slice none 0 0,.slice none 0 0,.slice none 0 0,.slice none 0 0,.slice none 0 0,.int .i64 0],[.slice none 0 0],rfl,io _,⟨none,0,rfl,iQ _,mC _,.inl rfl⟩⟩⟩)
structure aq where
 Logic:aw
 kinds:(List (List Int))
 first:(List Int)
 deriving DecidableEq,Inhabited
def aZ:Rp aq:=nI (cq ay (cq (gy (gy (rI .i64))) (gy (rI .i64)))) (fun x=>(x.Logic,x.kinds,x.first))
def s7:mf aZ 0 ay (fun x=>x.Logic):=(eV df)
def CH:g9 aZ 0 ay (fun x y=>{x with Logic:=y}):=cL ee (fun _ _=>rfl)
def CZ:mf aZ 1 (gy (gy (rI .i64))) (fun x=>x.kinds):=(eV (aF df rfl))
def CF:g9 aZ 1 (gy (gy (rI .i64))) (fun x y=>{x with kinds:=y}):=cL (aA ee rfl) (fun _ _=>rfl)
def w7:mf aZ 2 (gy (rI .i64)) (fun x=>x.first):=(aF (aF df rfl) rfl)
def CE:g9 aZ 2 (gy (rI .i64)) (fun x y=>{x with first:=y}):=cL (aA (aA ae rfl) rfl) (fun _ _=>rfl)
def Ft: ∀S,aZ.rc S [.slice none 0 0,.slice none 0 0,.slice none 0 0] ((⟨(⟨[]⟩:aw),[],[]⟩:aq)):=fun _=>⟨[.slice none 0 0],[.slice none 0 0,.slice none 0 0],rfl,ec _,⟨[.slice none 0 0],[.slice none 0 0],rfl,⟨none,0,rfl,iQ _,mC _,.inl rfl⟩,⟨none,0,rfl,iQ _,mC _,.inl rfl⟩⟩⟩
structure HG where
 Nodes:Value
def dw:Rp HG:=nI rV (fun x=>(x.Nodes))
def iw:mf dw 0 rV (fun x=>x.Nodes):=df
def ue:g9 dw 0 rV (fun x y=>{x with Nodes:=y}):=cL ae (fun _ _=>rfl)
def dO(y:ai)(v0:Value):HG:=⟨v0⟩
def oH: ∀S,dw.rc S [.slice none 0 0] (dO ((⟨[]⟩:ai)) (aK none 0 0)):=fun _=>⟨rfl,rfl⟩
structure Fc where
 Nodes:Value
def dA:Rp Fc:=nI rV (fun x=>(x.Nodes))
def jz:mf dA 0 rV (fun x=>x.Nodes):=df
def CD:g9 dA 0 rV (fun x y=>{x with Nodes:=y}):=cL ae (fun _ _=>rfl)
def dZ(y:aw)(v0:Value):Fc:=⟨v0⟩
def sS: ∀S,dA.rc S [.slice none 0 0] (dZ ((⟨[]⟩:aw)) (aK none 0 0)):=fun _=>⟨rfl,rfl⟩
structure Fe where
 Op:Int
 A:Int
 B:Int
 Table:Int
 Kinds:(List Int)
 Left:Bool
 Cond:ai
 Keys:(List Int)
 Aggs:Value
 Items:(List ai)
 Order:(List ly)
 Limit:Int
def Aa:Rp Fe:=nI (cq (rI .i64) (cq (rI .i64) (cq (rI .i64) (cq (rI .i64) (cq (gy (rI .i64)) (cq rB (cq ah (cq (gy (rI .i64)) (cq rV (cq (gy ah) (cq (gy fU) (rI .i64)))))))))))) (fun x=>(x.Op,x.A,x.B,x.Table,x.Kinds,x.Left,x.Cond,x.Keys,x.Aggs,x.Items,x.Order,x.Limit))
def An(y:aa)(v8:Value):Fe:=⟨y.Op,y.A,y.B,y.Table,y.Kinds,y.Left,y.Cond,y.Keys,v8,y.Items,y.Order,y.Limit⟩
structure AZ where
 Op:Int
 A:Int
 B:Int
 Table:Int
 Kinds:(List Int)
 Left:Bool
 Cond:ai
 Keys:(List Int)
 Aggs:Value
 Items:Value
 Order:(List ly)
 Limit:Int
def dv:Rp AZ:=nI (cq (rI .i64) (cq (rI .i64) (cq (rI .i64) (cq (rI .i64) (cq (gy (rI .i64)) (cq rB (cq ah (cq (gy (rI .i64)) (cq rV (cq rV (cq (gy fU) (rI .i64)))))))))))) (fun x=>(x.Op,x.A,x.B,x.Table,x.Kinds,x.Left,x.Cond,x.Keys,x.Aggs,x.Items,x.Order,x.Limit))
def Aw:mf dv 6 ah (fun x=>x.Cond):=(eV (aF (aF (aF (aF (aF (aF df rfl) rfl) rfl) rfl) rfl) rfl))
def zU:g9 dv 6 ah (fun x y=>{x with Cond:=y}):=cL (aA (aA (aA (aA (aA (aA ee rfl) rfl) rfl) rfl) rfl) rfl) (fun _ _=>rfl)
def lX:mf dv 8 rV (fun x=>x.Aggs):=(eV (aF (aF (aF (aF (aF (aF (aF (aF df rfl) rfl) rfl) rfl) rfl) rfl) rfl) rfl))
def lW:mf dv 9 rV (fun x=>x.Items):=(eV (aF (aF (aF (aF (aF (aF (aF (aF (aF df rfl) rfl) rfl) rfl) rfl) rfl) rfl) rfl) rfl))
def y4:g9 dv 10 (gy fU) (fun x y=>{x with Order:=y}):=cL (aA (aA (aA (aA (aA (aA (aA (aA (aA (aA ee rfl) rfl) rfl) rfl) rfl) rfl) rfl) rfl) rfl) rfl) (fun _ _=>rfl)
def ft(y:aa)(v8:Value)(v9:Value):AZ:=⟨y.Op,y.A,y.B,y.Table,y.Kinds,y.Left,y.Cond,y.Keys,v8,v9,y.Order,y.Limit⟩
def Cw: ∀S,dv.rc S [.int .i64 0,.int .i64 0,.int .i64 0,.int .i64 0,.slice none 0 0,.bool false,.slice none 0 0,.slice none 0 0,.slice none 0 0,.slice none 0 0,.slice none 0 0,.int .i64 0] (ft ((⟨(0:Int),(0:Int),(0:Int),(0:Int),[],false,(⟨[]⟩:ai),[],[],[],[],(0:Int)⟩:aa)) (aK none 0 0) (aK none 0 0)):=fun _=>⟨[.int .i64 0],[.int .i64 0,.int .i64 0,.int .i64 0,.slice none 0 0,.bool false,.slice none 0 0,.slice none 0 0,.slice none 0 0,.slice none 0 0,.slice none 0 0,.int .i64 0],rfl,rfl,⟨[.int .i64 0],[.int .i64 0,.int .i64 0,.slice none 0 0,.bool false,.slice none 0 0,.slice none 0 0,.slice none 0 0,.slice none 0 0,.slice none 0 0,.int .i64 0],rfl,rfl,⟨[.int .i64 0],[.int .i64 0,.slice none 0 0,.bool false,.slice none 0 0,.slice none 0 0,.slice none 0 0,.slice none 0 0,.slice none 0 0,.int .i64 0],rfl,rfl,⟨[.int .i64 0],[.slice none 0 0,.bool false,.slice none 0 0,.slice none 0 0,.slice none 0 0,.slice none 0 0,.slice none 0 0,.int .i64 0],rfl,rfl,⟨[.slice none 0 0],[.bool false,.slice none 0 0,.slice none 0 0,.slice none 0 0,.slice none 0 0,.slice none 0 0,.int .i64 0],rfl,⟨none,0,rfl,iQ _,mC _,.inl rfl⟩,⟨[.bool false],[.slice none 0 0,.slice none 0 0,.slice none 0 0,.slice none 0 0,.slice none 0 0,.int .i64 0],rfl,rfl,⟨[.slice none 0 0],[.slice none 0 0,.slice none 0 0,.slice none 0 0,.slice none 0 0,.int .i64 0],rfl,cF _,⟨[.slice none 0 0],[.slice none 0 0,.slice none 0 0,.slice none 0 0,.int .i64 0],rfl,⟨none,0,rfl,iQ _,mC _,.inl rfl⟩,⟨[.slice none 0 0],[.slice none 0 0,.slice none 0 0,.int .i64 0],rfl,⟨rfl,rfl⟩,⟨[.slice none 0 0],[.slice none 0 0,.int .i64 0],rfl,⟨rfl,rfl⟩,⟨[.slice none 0 0],[.int .i64 0],rfl,⟨none,0,rfl,iQ _,mC _,.inl rfl⟩,rfl⟩⟩⟩⟩⟩⟩⟩⟩⟩⟩⟩
structure HF where
 Logic:aw
 root:aa
 parts:Value
def jT:Rp HF:=nI (cq ay (cq ak rV)) (fun x=>(x.Logic,x.root,x.parts))
def DV:g9 jT 0 ay (fun x y=>{x with Logic:=y}):=cL ee (fun _ _=>rfl)
def yN:mf jT 1 ak (fun x=>x.root):=(eV (aF df rfl))
def DU:g9 jT 1 ak (fun x y=>{x with root:=y}):=cL (aA ee rfl) (fun _ _=>rfl)
def EO:mf jT 13 rV (fun x=>x.parts):=(aF (aF df rfl) rfl)
def oU(y:am)(v2:Value):HF:=⟨y.Logic,y.root,v2⟩
def HR: ∀S,jT.rc S [.slice none 0 0,.int .i64 0,.int .i64 0,.int .i64 0,.int .i64 0,.slice none 0 0,.bool false,.slice none 0 0,.slice none 0 0,.slice none 0 0,.slice none 0 0,.slice none 0 0,.int .i64 0,.slice none 0 0] (oU ((⟨(⟨[]⟩:aw),(⟨(0:Int),(0:Int),(0:Int),(0:Int),[],false,(⟨[]⟩:ai),[],[],[],[],(0:Int)⟩:aa),[]⟩:am)) (aK none 0 0)):=fun _=>⟨[.slice none 0 0],[.int .i64 0,.int .i64 0,.int .i64 0,.int .i64 0,.slice none 0 0,.bool false,.slice none 0 0,.slice none 0 0,.slice none 0 0,.slice none 0 0,.slice none 0 0,.int .i64 0,.slice none 0 0],rfl,ec _,⟨[.int .i64 0,.int .i64 0,.int .i64 0,.int .i64 0,.slice none 0 0,.bool false,.slice none 0 0,.slice none 0 0,.slice none 0 0,.slice none 0 0,.slice none 0 0,.int .i64 0],[.slice none 0 0],rfl,io _,⟨rfl,rfl⟩⟩⟩
def oq{S:SH}{cs:List Value}{y:ai}{v0:Value}{xs0:(List aj)}(k0:(gy ap).rc S [v0] xs0)(h:dw.rc S cs (dO y v0)):ah.rc S cs ((⟨xs0⟩:ai)):=by
 have h0:=h
 exact(by rw [h0.1];exact k0)
def m7{S:SH}{cs:List Value}{y:aw}{v0:Value}{xs0:(List aa)}(k0:(gy ak).rc S [v0] xs0)(h:dA.rc S cs (dZ y v0)):ay.rc S cs ((⟨xs0⟩:aw)):=by
 have h0:=h
 exact(by rw [h0.1];exact k0)
def ru{S:SH}{cs:List Value}{y:aa}{v8:Value}{v9:Value}{xs8:(List ik)}(k8:(gy dt).rc S [v8] xs8){xs9:(List ai)}(k9:(gy ah).rc S [v9] xs9)(h:dv.rc S cs (ft y v8 v9)):ak.rc S cs ((⟨y.Op,y.A,y.B,y.Table,y.Kinds,y.Left,y.Cond,y.Keys,xs8,xs9,y.Order,y.Limit⟩:aa)):=by
 obtain⟨a0,b0,e0,h0,a1,b1,e1,Y,a2,b2,e2,J,a3,b3,e3,Z,a4,b4,e4,h4,a5,b5,e5,h5,a6,b6,e6,h6,a7,b7,e7,h7,a8,b8,e8,h8,a9,b9,e9,h9,a10,b10,e10,h10,h11⟩:=h
 exact⟨a0,b0,e0,h0,a1,b1,e1,Y,a2,b2,e2,J,a3,b3,e3,Z,a4,b4,e4,h4,a5,b5,e5,h5,a6,b6,e6,h6,a7,b7,e7,h7,a8,b8,e8,(by rw [h8.1];exact k8),a9,b9,e9,(by rw [h9.1];exact k9),a10,b10,e10,h10,h11⟩
def KK(t:am):t=⟨t.Logic,t.root,t.parts⟩:=by cases t;rfl
def AR{S:SH}{cs:List Value}{y h1:am}{v2:Value}{xs2:(List am)}(k2:(gy an).rc S [v2] xs2)(h:jT.rc S cs (oU y v2))(hY:h1=(⟨y.Logic,y.root,xs2⟩:am):=by first|rfl|exact KK _):an.rc S cs h1:=by
 subst hY
 obtain⟨a0,b0,e0,h0,a1,b1,e1,Y,J⟩:=h
 exact(ri _ _ _).2 (⟨a0,b0,e0,h0,a1,b1,e1,Y,(by rw [J.1];exact k2)⟩)
def pV(y:ai)(u:Value)(v:Value):ov dw dw 0 rV (dO y u) v (dO y v):=wB (iC rfl) rfl
def lL(y:aw)(u:Value)(v:Value):ov dA dA 0 rV (dZ y u) v (dZ y v):=wB (iC rfl) rfl
def qA(y:aa)(v:Value):ov ak Aa 8 rV (y) v (An y v):=wB (iM (iM (iM (iM (iM (iM (iM (iM (G5 (iC rfl) rfl) rfl) rfl) rfl) rfl) rfl) rfl) rfl) rfl) rfl
def nO(y:aa)(v8:Value)(v:Value):ov Aa dv 9 rV (An y v8) v (ft y v8 v):=wB (iM (iM (iM (iM (iM (iM (iM (iM (iM (G5 (iC rfl) rfl) rfl) rfl) rfl) rfl) rfl) rfl) rfl) rfl) rfl) rfl
def u5(y:am)(u:Value)(v:Value):ov jT jT 13 rV (oU y u) v (oU y v):=wB (iM (iM (iC rfl) rfl) rfl) rfl
def dB(b:Nat)(x:aq)(i:OI):List OE:=[bx (rH aZ [(1,aK (i.h 0).1 (i.h 0).2 x.kinds.length),(2,aK (i.h 1).1 (i.h 1).2 x.first.length)]) 102 b x,gT (gy (rI .i64)) 23 (i.h 0).1 (i.h 0).2 x.kinds,gT (rI .i64) 3 (i.h 1).1 (i.h 1).2 x.first]
abbrev Jv:Rp (List (List ai)):=nK (gy ah) 3
def fk:Rp (List Value):=nK rV 3
def ie(_y:(List (List ai)))(v0 v1 v2:Value):List Value:=[v0,v1,v2]
def Az:mf fk 0 rV (fun x=>(x[0]?).getD undef):=Av (by decide)
def Ay:mf fk 1 rV (fun x=>(x[1]?).getD undef):=Av (by decide)
def Ax:mf fk 2 rV (fun x=>(x[2]?).getD undef):=Av (by decide)
def Cx: ∀S,fk.rc S [.slice none 0 0,.slice none 0 0,.slice none 0 0] (ie (List.replicate 3 []) (aK none 0 0) (aK none 0 0) (aK none 0 0)):=fun _=>⟨rfl,⟨[_],_,rfl,⟨rfl,rfl⟩,⟨[_],_,rfl,⟨rfl,rfl⟩,⟨[_],_,rfl,⟨rfl,rfl⟩,rfl⟩⟩⟩⟩
def xc{S:SH}{cs:List Value}{y:(List (List ai))}{v0:Value}{v1:Value}{v2:Value}{xs0:(List ai)}(k0:(gy ah).rc S [v0] xs0){xs1:(List ai)}(k1:(gy ah).rc S [v1] xs1){xs2:(List ai)}(k2:(gy ah).rc S [v2] xs2)(h:fk.rc S cs (ie y v0 v1 v2)):Jv.rc S cs [xs0,xs1,xs2]:=Pt h ⟨k0,k1,k2,trivial⟩
def qz(y:(List (List ai)))(v1:Value)(v2:Value)(u:Value)(v:Value):ov fk fk 0 rV (ie y u v1 v2) v (ie y v v1 v2):=zR (q:=rV) (n:=3) (i:=0) (by decide)
def qy(y:(List (List ai)))(v0:Value)(v2:Value)(u:Value)(v:Value):ov fk fk 1 rV (ie y v0 u v2) v (ie y v0 v v2):=zR (q:=rV) (n:=3) (i:=1) (by decide)
def qx(y:(List (List ai)))(v0:Value)(v1:Value)(u:Value)(v:Value):ov fk fk 2 rV (ie y v0 v1 u) v (ie y v0 v1 v):=zR (q:=rV) (n:=3) (i:=2) (by decide)

end Go.Proofs.YtbmmihfagmchaaaGreat

