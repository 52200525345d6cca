/- bR of this claim: D. -/
import Derived.Test.YtdohlidddcgfjaaGreatFbV3
import Derived.Test.YtdohlidddcgfjaaGreatFbV4
set_option linter.all false
namespace Go.Proofs.YtdohlidddcgfjaaGreat
open Go

structure ap where
 Kind:Int
 N:Int
 U:Int
 S:NL
 deriving DecidableEq,Inhabited
def be:Rp ap:=qc (dg (rI .i64) (dg (rI .i64) (dg (rI .u64) rS))) (fun x=>(x.Kind,x.N,x.U,x.S))
def mS:j6 be 0 (rI .i64) (fun x=>x.Kind):=(cE bQ)
def tw:eE be 0 (rI .i64) (fun x y=>{x with Kind:=y}):=bI cx (fun _ _=>rfl)
def po:j6 be 1 (rI .i64) (fun x=>x.N):=(cE (ax bQ rfl))
def qT:eE be 1 (rI .i64) (fun x y=>{x with N:=y}):=bI (aw cx rfl) (fun _ _=>rfl)
def By:j6 be 2 (rI .u64) (fun x=>x.U):=(cE (ax (ax bQ rfl) rfl))
def A5:eE be 2 (rI .u64) (fun x y=>{x with U:=y}):=bI (aw (aw cx rfl) rfl) (fun _ _=>rfl)
def tJ:j6 be 3 rS (fun x=>x.S):=(ax (ax (ax bQ rfl) rfl) rfl)
def A4:eE be 3 rS (fun x y=>{x with S:=y}):=bI (aw (aw (aw aB rfl) rfl) rfl) (fun _ _=>rfl)
def lK: ∀S,be.rc S [.int .i64 0,.int .i64 0,.int .u64 0,.string ⟨#[]⟩] ((⟨(0:Int),(0:Int),(0:Int),[]⟩:ap)):=fun _=>⟨[.int .i64 0],[.int .i64 0,.int .u64 0,.string ⟨#[]⟩],rfl,rfl,⟨[.int .i64 0],[.int .u64 0,.string ⟨#[]⟩],rfl,rfl,⟨[.int .u64 0],[.string ⟨#[]⟩],rfl,rfl,rfl⟩⟩⟩
structure mZ where
 Rows:(List (List ap))
 End:Bool
 Count:Int
 deriving DecidableEq,Inhabited
def mI:Rp mZ:=qc (dg (gr (gr be)) (dg rB (rI .u64))) (fun x=>(x.Rows,x.End,x.Count))
def nU:j6 mI 0 (gr (gr be)) (fun x=>x.Rows):=(cE bQ)
def nT:j6 mI 1 rB (fun x=>x.End):=(cE (ax bQ rfl))
def nS:j6 mI 2 (rI .u64) (fun x=>x.Count):=(ax (ax bQ rfl) rfl)
def Fm: ∀S,mI.rc S [.slice none 0 0,.bool false,.int .u64 0] ((⟨[],false,(0:Int)⟩:mZ)):=fun _=>⟨[.slice none 0 0],[.bool false,.int .u64 0],rfl,⟨none,0,rfl,jW _,nv _,.inl rfl⟩,⟨[.bool false],[.int .u64 0],rfl,rfl,rfl⟩⟩
structure kW where
 Kind:Int
 Session:Int
 Seq:Int
 Limit:Int
 Batch:mZ
 deriving DecidableEq,Inhabited
def fL:Rp kW:=qc (dg (rI .i64) (dg (rI .u32) (dg (rI .u64) (dg (rI .u64) mI)))) (fun x=>(x.Kind,x.Session,x.Seq,x.Limit,x.Batch))
def pS:j6 fL 0 (rI .i64) (fun x=>x.Kind):=(cE bQ)
def rM:j6 fL 1 (rI .u32) (fun x=>x.Session):=(cE (ax bQ rfl))
def mT:j6 fL 2 (rI .u64) (fun x=>x.Seq):=(cE (ax (ax bQ rfl) rfl))
def oo:j6 fL 3 (rI .u64) (fun x=>x.Limit):=(cE (ax (ax (ax bQ rfl) rfl) rfl))
def gY:j6 fL 4 mI (fun x=>x.Batch):=(ax (ax (ax (ax bQ rfl) rfl) rfl) rfl)
def CX: ∀S,fL.rc S [.int .i64 0,.int .u32 0,.int .u64 0,.int .u64 0,.slice none 0 0,.bool false,.int .u64 0] ((⟨(0:Int),(0:Int),(0:Int),(0:Int),(⟨[],false,(0:Int)⟩:mZ)⟩:kW)):=fun _=>⟨[.int .i64 0],[.int .u32 0,.int .u64 0,.int .u64 0,.slice none 0 0,.bool false,.int .u64 0],rfl,rfl,⟨[.int .u32 0],[.int .u64 0,.int .u64 0,.slice none 0 0,.bool false,.int .u64 0],rfl,rfl,⟨[.int .u64 0],[.int .u64 0,.slice none 0 0,.bool false,.int .u64 0],rfl,rfl,⟨[.int .u64 0],[.slice none 0 0,.bool false,.int .u64 0],rfl,rfl,Fm _⟩⟩⟩⟩
structure j3 where
 Col:Int
 Desc:Bool
 deriving DecidableEq,Inhabited
def gB:Rp j3:=qc (dg (rI .i64) rB) (fun x=>(x.Col,x.Desc))
def xZ:j6 gB 0 (rI .i64) (fun x=>x.Col):=(cE bQ)
def Mg:eE gB 0 (rI .i64) (fun x y=>{x with Col:=y}):=bI cx (fun _ _=>rfl)
def GC:j6 gB 1 rB (fun x=>x.Desc):=(ax bQ rfl)
def Mf:eE gB 1 rB (fun x y=>{x with Desc:=y}):=bI (aw aB rfl) (fun _ _=>rfl)
def Hm: ∀S,gB.rc S [.int .i64 0,.bool false] ((⟨(0:Int),false⟩:j3)):=fun _=>⟨[.int .i64 0],[.bool false],rfl,rfl,rfl⟩
structure am where
 Tag:Int
 L:Int
 R:Int
 Col:Int
 Value:ap
 deriving DecidableEq,Inhabited
def bq:Rp am:=qc (dg (rI .i64) (dg (rI .i64) (dg (rI .i64) (dg (rI .i64) be)))) (fun x=>(x.Tag,x.L,x.R,x.Col,x.Value))
def ff:j6 bq 0 (rI .i64) (fun x=>x.Tag):=(cE bQ)
def HO:eE bq 0 (rI .i64) (fun x y=>{x with Tag:=y}):=bI cx (fun _ _=>rfl)
def BA:j6 bq 1 (rI .i64) (fun x=>x.L):=(cE (ax bQ rfl))
def wN:eE bq 1 (rI .i64) (fun x y=>{x with L:=y}):=bI (aw cx rfl) (fun _ _=>rfl)
def Bz:j6 bq 2 (rI .i64) (fun x=>x.R):=(cE (ax (ax bQ rfl) rfl))
def wM:eE bq 2 (rI .i64) (fun x y=>{x with R:=y}):=bI (aw (aw cx rfl) rfl) (fun _ _=>rfl)
def mW:j6 bq 3 (rI .i64) (fun x=>x.Col):=(cE (ax (ax (ax bQ rfl) rfl) rfl))
def HN:eE bq 3 (rI .i64) (fun x y=>{x with Col:=y}):=bI (aw (aw (aw cx rfl) rfl) rfl) (fun _ _=>rfl)
def pq:j6 bq 4 be (fun x=>x.Value):=(ax (ax (ax (ax bQ rfl) rfl) rfl) rfl)
def HM:eE bq 4 be (fun x y=>{x with Value:=y}):=bI (aw (aw (aw (aw aB rfl) rfl) rfl) rfl) (fun _ _=>rfl)
def qO: ∀S,bq.rc S [.int .i64 0,.int .i64 0,.int .i64 0,.int .i64 0,.int .i64 0,.int .i64 0,.int .u64 0,.string ⟨#[]⟩] ((⟨(0:Int),(0:Int),(0:Int),(0:Int),(⟨(0:Int),(0:Int),(0:Int),[]⟩:ap)⟩:am)):=fun _=>⟨[.int .i64 0],[.int .i64 0,.int .i64 0,.int .i64 0,.int .i64 0,.int .i64 0,.int .u64 0,.string ⟨#[]⟩],rfl,rfl,⟨[.int .i64 0],[.int .i64 0,.int .i64 0,.int .i64 0,.int .i64 0,.int .u64 0,.string ⟨#[]⟩],rfl,rfl,⟨[.int .i64 0],[.int .i64 0,.int .i64 0,.int .i64 0,.int .u64 0,.string ⟨#[]⟩],rfl,rfl,⟨[.int .i64 0],[.int .i64 0,.int .i64 0,.int .u64 0,.string ⟨#[]⟩],rfl,rfl,lK _⟩⟩⟩⟩
structure aM where
 Nodes:(List am)
 deriving DecidableEq,Inhabited
def cD:Rp aM:=qc (gr bq) (fun x=>(x.Nodes))
def lk:j6 cD 0 (gr bq) (fun x=>x.Nodes):=bQ
def KI:eE cD 0 (gr bq) (fun x y=>{x with Nodes:=y}):=bI aB (fun _ _=>rfl)
def rr: ∀S,cD.rc S [.slice none 0 0] ((⟨[]⟩:aM)):=fun _=>⟨none,0,rfl,jW _,nv _,.inl rfl⟩
structure fj where
 Tag:Int
 Arg:aM
 deriving DecidableEq,Inhabited
def eV:Rp fj:=qc (dg (rI .i64) cD) (fun x=>(x.Tag,x.Arg))
def ll:j6 eV 0 (rI .i64) (fun x=>x.Tag):=(cE bQ)
def Mo:eE eV 0 (rI .i64) (fun x y=>{x with Tag:=y}):=bI cx (fun _ _=>rfl)
def pT:j6 eV 1 cD (fun x=>x.Arg):=(ax bQ rfl)
def Mn:eE eV 1 cD (fun x y=>{x with Arg:=y}):=bI (aw aB rfl) (fun _ _=>rfl)
def tm: ∀S,eV.rc S [.int .i64 0,.slice none 0 0] ((⟨(0:Int),(⟨[]⟩:aM)⟩:fj)):=fun _=>⟨[.int .i64 0],[.slice none 0 0],rfl,rfl,rr _⟩
structure aa where
 Op:Int
 A:Int
 B:Int
 Table:Int
 Kinds:(List Int)
 Left:Bool
 Cond:aM
 Keys:(List Int)
 Aggs:(List fj)
 Items:(List aM)
 Order:(List j3)
 Limit:Int
 deriving DecidableEq,Inhabited
def bc:Rp aa:=qc (dg (rI .i64) (dg (rI .i64) (dg (rI .i64) (dg (rI .i64) (dg (gr (rI .i64)) (dg rB (dg cD (dg (gr (rI .i64)) (dg (gr eV) (dg (gr cD) (dg (gr gB) (rI .i64)))))))))))) (fun x=>(x.Op,x.A,x.B,x.Table,x.Kinds,x.Left,x.Cond,x.Keys,x.Aggs,x.Items,x.Order,x.Limit))
def dQ:j6 bc 0 (rI .i64) (fun x=>x.Op):=(cE bQ)
def HK:eE bc 0 (rI .i64) (fun x y=>{x with Op:=y}):=bI cx (fun _ _=>rfl)
def tL:j6 bc 1 (rI .i64) (fun x=>x.A):=(cE (ax bQ rfl))
def mH:eE bc 1 (rI .i64) (fun x y=>{x with A:=y}):=bI (aw cx rfl) (fun _ _=>rfl)
def w7:j6 bc 2 (rI .i64) (fun x=>x.B):=(cE (ax (ax bQ rfl) rfl))
def mG:eE bc 2 (rI .i64) (fun x y=>{x with B:=y}):=bI (aw (aw cx rfl) rfl) (fun _ _=>rfl)
def mU:j6 bc 3 (rI .i64) (fun x=>x.Table):=(cE (ax (ax (ax bQ rfl) rfl) rfl))
def HJ:eE bc 3 (rI .i64) (fun x y=>{x with Table:=y}):=bI (aw (aw (aw cx rfl) rfl) rfl) (fun _ _=>rfl)
def ja:j6 bc 4 (gr (rI .i64)) (fun x=>x.Kinds):=(cE (ax (ax (ax (ax bQ rfl) rfl) rfl) rfl))
def HI:eE bc 4 (gr (rI .i64)) (fun x y=>{x with Kinds:=y}):=bI (aw (aw (aw (aw cx rfl) rfl) rfl) rfl) (fun _ _=>rfl)
def tK:j6 bc 5 rB (fun x=>x.Left):=(cE (ax (ax (ax (ax (ax bQ rfl) rfl) rfl) rfl) rfl))
def HH:eE bc 5 rB (fun x y=>{x with Left:=y}):=bI (aw (aw (aw (aw (aw cx rfl) rfl) rfl) rfl) rfl) (fun _ _=>rfl)
def nR:j6 bc 6 cD (fun x=>x.Cond):=(cE (ax (ax (ax (ax (ax (ax bQ rfl) rfl) rfl) rfl) rfl) rfl))
def A6:eE bc 6 cD (fun x y=>{x with Cond:=y}):=bI (aw (aw (aw (aw (aw (aw cx rfl) rfl) rfl) rfl) rfl) rfl) (fun _ _=>rfl)
def iq:j6 bc 7 (gr (rI .i64)) (fun x=>x.Keys):=(cE (ax (ax (ax (ax (ax (ax (ax bQ rfl) rfl) rfl) rfl) rfl) rfl) rfl))
def HG:eE bc 7 (gr (rI .i64)) (fun x y=>{x with Keys:=y}):=bI (aw (aw (aw (aw (aw (aw (aw cx rfl) rfl) rfl) rfl) rfl) rfl) rfl) (fun _ _=>rfl)
def gc:j6 bc 8 (gr eV) (fun x=>x.Aggs):=(cE (ax (ax (ax (ax (ax (ax (ax (ax bQ rfl) rfl) rfl) rfl) rfl) rfl) rfl) rfl))
def HF:eE bc 8 (gr eV) (fun x y=>{x with Aggs:=y}):=bI (aw (aw (aw (aw (aw (aw (aw (aw cx rfl) rfl) rfl) rfl) rfl) rfl) rfl) rfl) (fun _ _=>rfl)
def pp:j6 bc 9 (gr cD) (fun x=>x.Items):=(cE (ax (ax (ax (ax (ax (ax (ax (ax (ax bQ rfl) rfl) rfl) rfl) rfl) rfl) rfl) rfl) rfl))
def HE:eE bc 9 (gr cD) (fun x y=>{x with Items:=y}):=bI (aw (aw (aw (aw (aw (aw (aw (aw (aw cx rfl) rfl) rfl) rfl) rfl) rfl) rfl) rfl) rfl) (fun _ _=>rfl)
def mV:j6 bc 10 (gr gB) (fun x=>x.Order):=(cE (ax (ax (ax (ax (ax (ax (ax (ax (ax (ax bQ rfl) rfl) rfl) rfl) rfl) rfl) rfl) rfl) rfl) rfl))
def FS:eE bc 10 (gr gB) (fun x y=>{x with Order:=y}):=bI (aw (aw (aw (aw (aw (aw (aw (aw (aw (aw cx rfl) rfl) rfl) rfl) rfl) rfl) rfl) rfl) rfl) rfl) (fun _ _=>rfl)
def oq:j6 bc 11 (rI .i64) (fun x=>x.Limit):=(ax (ax (ax (ax (ax (ax (ax (ax (ax (ax (ax bQ rfl) rfl) rfl) rfl) rfl) rfl) rfl) rfl) rfl) rfl) rfl)
def FR:eE bc 11 (rI .i64) (fun x y=>{x with Limit:=y}):=bI (aw (aw (aw (aw (aw (aw (aw (aw (aw (aw (aw aB rfl) rfl) rfl) rfl) rfl) rfl) rfl) rfl) rfl) rfl) rfl) (fun _ _=>rfl)
def j7: ∀S,bc.rc S [.int .i64 0,.int .i64 0,.int .i64 0,.int .i64 0,.slice none 0 0,.bool false,.slice none 0 0,.slice none 0 0,.slice none 0 0,.slice none 0 0,.slice none 0 0,.int .i64 0] ((⟨(0:Int),(0:Int),(0:Int),(0:Int),[],false,(⟨[]⟩:aM),[],[],[],[],(0:Int)⟩:aa)):=fun _=>⟨[.int .i64 0],[.int .i64 0,.int .i64 0,.int .i64 0,.slice none 0 0,.bool false,.slice none 0 0,.slice none 0 0,.slice none 0 0,.slice none 0 0,.slice none 0 0,.int .i64 0],rfl,rfl,⟨[.int .i64 0],[.int .i64 0,.int .i64 0,.slice none 0 0,.bool false,.slice none 0 0,.slice none 0 0,.slice none 0 0,.slice none 0 0,.slice none 0 0,.int .i64 0],rfl,rfl,⟨[.int .i64 0],[.int .i64 0,.slice none 0 0,.bool false,.slice none 0 0,.slice none 0 0,.slice none 0 0,.slice none 0 0,.slice none 0 0,.int .i64 0],rfl,rfl,⟨[.int .i64 0],[.slice none 0 0,.bool false,.slice none 0 0,.slice none 0 0,.slice none 0 0,.slice none 0 0,.slice none 0 0,.int .i64 0],rfl,rfl,⟨[.slice none 0 0],[.bool false,.slice none 0 0,.slice none 0 0,.slice none 0 0,.slice none 0 0,.slice none 0 0,.int .i64 0],rfl,⟨none,0,rfl,jW _,nv _,.inl rfl⟩,⟨[.bool false],[.slice none 0 0,.slice none 0 0,.slice none 0 0,.slice none 0 0,.slice none 0 0,.int .i64 0],rfl,rfl,⟨[.slice none 0 0],[.slice none 0 0,.slice none 0 0,.slice none 0 0,.slice none 0 0,.int .i64 0],rfl,rr _,⟨[.slice none 0 0],[.slice none 0 0,.slice none 0 0,.slice none 0 0,.int .i64 0],rfl,⟨none,0,rfl,jW _,nv _,.inl rfl⟩,⟨[.slice none 0 0],[.slice none 0 0,.slice none 0 0,.int .i64 0],rfl,⟨none,0,rfl,jW _,nv _,.inl rfl⟩,⟨[.slice none 0 0],[.slice none 0 0,.int .i64 0],rfl,⟨none,0,rfl,jW _,nv _,.inl rfl⟩,⟨[.slice none 0 0],[.int .i64 0],rfl,⟨none,0,rfl,jW _,nv _,.inl rfl⟩,rfl⟩⟩⟩⟩⟩⟩⟩⟩⟩⟩⟩
structure dE where
 Nodes:(List aa)
 At:Int
 Way:Int
 Cols:(List Int)
 deriving DecidableEq,Inhabited
def ck:Rp dE:=qc (dg (gr bc) (dg (rI .i64) (dg (rI .i64) (gr (rI .i64))))) (fun x=>(x.Nodes,x.At,x.Way,x.Cols))
def s3:j6 ck 0 (gr bc) (fun x=>x.Nodes):=(cE bQ)
def KH:eE ck 0 (gr bc) (fun x y=>{x with Nodes:=y}):=bI cx (fun _ _=>rfl)
def s0:j6 ck 1 (rI .i64) (fun x=>x.At):=(cE (ax bQ rfl))
def Di:eE ck 1 (rI .i64) (fun x y=>{x with At:=y}):=bI (aw cx rfl) (fun _ _=>rfl)
def sZ:j6 ck 2 (rI .i64) (fun x=>x.Way):=(cE (ax (ax bQ rfl) rfl))
def Dh:eE ck 2 (rI .i64) (fun x y=>{x with Way:=y}):=bI (aw (aw cx rfl) rfl) (fun _ _=>rfl)
def sY:j6 ck 3 (gr (rI .i64)) (fun x=>x.Cols):=(ax (ax (ax bQ rfl) rfl) rfl)
def Dg:eE ck 3 (gr (rI .i64)) (fun x y=>{x with Cols:=y}):=bI (aw (aw (aw aB rfl) rfl) rfl) (fun _ _=>rfl)
def oC: ∀S,ck.rc S [.slice none 0 0,.int .i64 0,.int .i64 0,.slice none 0 0] ((⟨[],(0:Int),(0:Int),[]⟩:dE)):=fun _=>⟨[.slice none 0 0],[.int .i64 0,.int .i64 0,.slice none 0 0],rfl,⟨none,0,rfl,jW _,nv _,.inl rfl⟩,⟨[.int .i64 0],[.int .i64 0,.slice none 0 0],rfl,rfl,⟨[.int .i64 0],[.slice none 0 0],rfl,rfl,⟨none,0,rfl,jW _,nv _,.inl rfl⟩⟩⟩⟩
structure iu where
 Frags:(List dE)
 deriving DecidableEq,Inhabited
def kj:Rp iu:=qc (gr ck) (fun x=>(x.Frags))
def om:j6 kj 0 (gr ck) (fun x=>x.Frags):=bQ
def KG:eE kj 0 (gr ck) (fun x y=>{x with Frags:=y}):=bI aB (fun _ _=>rfl)
def rq: ∀S,kj.rc S [.slice none 0 0] ((⟨[]⟩:iu)):=fun _=>⟨none,0,rfl,jW _,nv _,.inl rfl⟩
structure oY where
 Kind:Int
 From:Int
 To:Int
 Epoch:Int
 Frag:Int
 Sites:Int
 Plan:iu
 Packet:kW
 Err:Int
 deriving DecidableEq,Inhabited
def fS:Rp oY:=qc (dg (rI .i64) (dg (rI .i64) (dg (rI .i64) (dg (rI .i64) (dg (rI .i64) (dg (rI .i64) (dg kj (dg fL (rI .i64))))))))) (fun x=>(x.Kind,x.From,x.To,x.Epoch,x.Frag,x.Sites,x.Plan,x.Packet,x.Err))
def sX:j6 fS 0 (rI .i64) (fun x=>x.Kind):=(cE bQ)
def FQ:eE fS 0 (rI .i64) (fun x y=>{x with Kind:=y}):=bI cx (fun _ _=>rfl)
def yc:j6 fS 1 (rI .i64) (fun x=>x.From):=(cE (ax bQ rfl))
def FP:eE fS 1 (rI .i64) (fun x y=>{x with From:=y}):=bI (aw cx rfl) (fun _ _=>rfl)
def yb:j6 fS 2 (rI .i64) (fun x=>x.To):=(cE (ax (ax bQ rfl) rfl))
def Mm:eE fS 2 (rI .i64) (fun x y=>{x with To:=y}):=bI (aw (aw cx rfl) rfl) (fun _ _=>rfl)
def vf:j6 fS 3 (rI .i64) (fun x=>x.Epoch):=(cE (ax (ax (ax bQ rfl) rfl) rfl))
def FO:eE fS 3 (rI .i64) (fun x y=>{x with Epoch:=y}):=bI (aw (aw (aw cx rfl) rfl) rfl) (fun _ _=>rfl)
def ve:j6 fS 4 (rI .i64) (fun x=>x.Frag):=(cE (ax (ax (ax (ax bQ rfl) rfl) rfl) rfl))
def Ml:eE fS 4 (rI .i64) (fun x y=>{x with Frag:=y}):=bI (aw (aw (aw (aw cx rfl) rfl) rfl) rfl) (fun _ _=>rfl)
def vd:j6 fS 5 (rI .i64) (fun x=>x.Sites):=(cE (ax (ax (ax (ax (ax bQ rfl) rfl) rfl) rfl) rfl))
def Mk:eE fS 5 (rI .i64) (fun x y=>{x with Sites:=y}):=bI (aw (aw (aw (aw (aw cx rfl) rfl) rfl) rfl) rfl) (fun _ _=>rfl)
def ya:j6 fS 6 kj (fun x=>x.Plan):=(cE (ax (ax (ax (ax (ax (ax bQ rfl) rfl) rfl) rfl) rfl) rfl))
def Mj:eE fS 6 kj (fun x y=>{x with Plan:=y}):=bI (aw (aw (aw (aw (aw (aw cx rfl) rfl) rfl) rfl) rfl) rfl) (fun _ _=>rfl)
def vc:j6 fS 7 fL (fun x=>x.Packet):=(cE (ax (ax (ax (ax (ax (ax (ax bQ rfl) rfl) rfl) rfl) rfl) rfl) rfl))
def Mi:eE fS 7 fL (fun x y=>{x with Packet:=y}):=bI (aw (aw (aw (aw (aw (aw (aw cx rfl) rfl) rfl) rfl) rfl) rfl) rfl) (fun _ _=>rfl)
def vb:j6 fS 14 (rI .i64) (fun x=>x.Err):=(ax (ax (ax (ax (ax (ax (ax (ax bQ rfl) rfl) rfl) rfl) rfl) rfl) rfl) rfl)
def Mh:eE fS 14 (rI .i64) (fun x y=>{x with Err:=y}):=bI (aw (aw (aw (aw (aw (aw (aw (aw aB rfl) rfl) rfl) rfl) rfl) rfl) rfl) rfl) (fun _ _=>rfl)
def yK: ∀S,fS.rc S [.int .i64 0,.int .i64 0,.int .i64 0,.int .i64 0,.int .i64 0,.int .i64 0,.slice none 0 0,.int .i64 0,.int .u32 0,.int .u64 0,.int .u64 0,.slice none 0 0,.bool false,.int .u64 0,.int .i64 0] ((⟨(0:Int),(0:Int),(0:Int),(0:Int),(0:Int),(0:Int),(⟨[]⟩:iu),(⟨(0:Int),(0:Int),(0:Int),(0:Int),(⟨[],false,(0:Int)⟩:mZ)⟩:kW),(0:Int)⟩:oY)):=fun _=>⟨[.int .i64 0],[.int .i64 0,.int .i64 0,.int .i64 0,.int .i64 0,.int .i64 0,.slice none 0 0,.int .i64 0,.int .u32 0,.int .u64 0,.int .u64 0,.slice none 0 0,.bool false,.int .u64 0,.int .i64 0],rfl,rfl,⟨[.int .i64 0],[.int .i64 0,.int .i64 0,.int .i64 0,.int .i64 0,.slice none 0 0,.int .i64 0,.int .u32 0,.int .u64 0,.int .u64 0,.slice none 0 0,.bool false,.int .u64 0,.int .i64 0],rfl,rfl,⟨[.int .i64 0],[.int .i64 0,.int .i64 0,.int .i64 0,.slice none 0 0,.int .i64 0,.int .u32 0,.int .u64 0,.int .u64 0,.slice none 0 0,.bool false,.int .u64 0,.int .i64 0],rfl,rfl,⟨[.int .i64 0],[.int .i64 0,.int .i64 0,.slice none 0 0,.int .i64 0,.int .u32 0,.int .u64 0,.int .u64 0,.slice none 0 0,.bool false,.int .u64 0,.int .i64 0],rfl,rfl,⟨[.int .i64 0],[.int .i64 0,.slice none 0 0,.int .i64 0,.int .u32 0,.int .u64 0,.int .u64 0,.slice none 0 0,.bool false,.int .u64 0,.int .i64 0],rfl,rfl,⟨[.int .i64 0],[.slice none 0 0,.int .i64 0,.int .u32 0,.int .u64 0,.int .u64 0,.slice none 0 0,.bool false,.int .u64 0,.int .i64 0],rfl,rfl,⟨[.slice none 0 0],[.int .i64 0,.int .u32 0,.int .u64 0,.int .u64 0,.slice none 0 0,.bool false,.int .u64 0,.int .i64 0],rfl,rq _,⟨[.int .i64 0,.int .u32 0,.int .u64 0,.int .u64 0,.slice none 0 0,.bool false,.int .u64 0],[.int .i64 0],rfl,CX _,rfl⟩⟩⟩⟩⟩⟩⟩⟩
structure ai where
 nodes:(List aa)
 kinds:(List (List Int))
 open_:(List Int)
 n:aa
 a_:(List Int)
 b:(List Int)
 result:(List Int)
 deriving DecidableEq,Inhabited
def bh:Rp ai:=qc (dg (gr bc) (dg (gr (gr (rI .i64))) (dg (KM:Rp (List Int)) (dg bc (dg (gr (rI .i64)) (dg (gr (rI .i64)) (gr (rI .i64)))))))) (fun x=>(x.nodes,x.kinds,x.open_,x.n,x.a_,x.b,x.result))
def y8:j6 bh 0 (gr bc) (fun x=>x.nodes):=(cE bQ)
def KF:eE bh 0 (gr bc) (fun x y=>{x with nodes:=y}):=bI cx (fun _ _=>rfl)
def KE:eE bh 1 (gr (gr (rI .i64))) (fun x y=>{x with kinds:=y}):=bI (aw cx rfl) (fun _ _=>rfl)
def KD:eE bh 2 (KM:Rp (List Int)) (fun x y=>{x with open_:=y}):=bI (aw (aw cx rfl) rfl) (fun _ _=>rfl)
def eD:j6 bh 3 bc (fun x=>x.n):=(cE (ax (ax (ax bQ rfl) rfl) rfl))
def KC:eE bh 3 bc (fun x y=>{x with n:=y}):=bI (aw (aw (aw cx rfl) rfl) rfl) (fun _ _=>rfl)
def nf:j6 bh 15 (gr (rI .i64)) (fun x=>x.a_):=(cE (ax (ax (ax (ax bQ rfl) rfl) rfl) rfl))
def Df:eE bh 15 (gr (rI .i64)) (fun x y=>{x with a_:=y}):=bI (aw (aw (aw (aw cx rfl) rfl) rfl) rfl) (fun _ _=>rfl)
def DG:j6 bh 16 (gr (rI .i64)) (fun x=>x.b):=(cE (ax (ax (ax (ax (ax bQ rfl) rfl) rfl) rfl) rfl))
def De:eE bh 16 (gr (rI .i64)) (fun x y=>{x with b:=y}):=bI (aw (aw (aw (aw (aw cx rfl) rfl) rfl) rfl) rfl) (fun _ _=>rfl)
def y7:j6 bh 17 (gr (rI .i64)) (fun x=>x.result):=(ax (ax (ax (ax (ax (ax bQ rfl) rfl) rfl) rfl) rfl) rfl)
def qC:eE bh 17 (gr (rI .i64)) (fun x y=>{x with result:=y}):=bI (aw (aw (aw (aw (aw (aw aB rfl) rfl) rfl) rfl) rfl) rfl) (fun _ _=>rfl)
def N0: ∀S,bh.rc S [.slice none 0 0,.slice none 0 0,.slice none 0 0,.int .i64 0,.int .i64 0,.int .i64 0,.int .i64 0,.slice none 0 0,.bool false,.slice none 0 0,.slice none 0 0,.slice none 0 0,.slice none 0 0,.slice none 0 0,.int .i64 0,.slice none 0 0,.slice none 0 0,.slice none 0 0] ((⟨[],[],[],(⟨(0:Int),(0:Int),(0:Int),(0:Int),[],false,(⟨[]⟩:aM),[],[],[],[],(0:Int)⟩:aa),[],[],[]⟩:ai)):=fun _=>⟨[.slice none 0 0],[.slice none 0 0,.slice none 0 0,.int .i64 0,.int .i64 0,.int .i64 0,.int .i64 0,.slice none 0 0,.bool false,.slice none 0 0,.slice none 0 0,.slice none 0 0,.slice none 0 0,.slice none 0 0,.int .i64 0,.slice none 0 0,.slice none 0 0,.slice none 0 0],rfl,⟨none,0,rfl,jW _,nv _,.inl rfl⟩,⟨[.slice none 0 0],[.slice none 0 0,.int .i64 0,.int .i64 0,.int .i64 0,.int .i64 0,.slice none 0 0,.bool false,.slice none 0 0,.slice none 0 0,.slice none 0 0,.slice none 0 0,.slice none 0 0,.int .i64 0,.slice none 0 0,.slice none 0 0,.slice none 0 0],rfl,⟨none,0,rfl,jW _,nv _,.inl rfl⟩,⟨[.slice none 0 0],[.int .i64 0,.int .i64 0,.int .i64 0,.int .i64 0,.slice none 0 0,.bool false,.slice none 0 0,.slice none 0 0,.slice none 0 0,.slice none 0 0,.slice none 0 0,.int .i64 0,.slice none 0 0,.slice none 0 0,.slice none 0 0],rfl,⟨_,rfl,rfl⟩,⟨[.int .i64 0,.int .i64 0,.int .i64 0,.int .i64 0,.slice none 0 0,.bool false,.slice none 0 0,.slice none 0 0,.slice none 0 0,.slice none 0 0,.slice none 0 0,.int .i64 0],[.slice none 0 0,.slice none 0 0,.slice none 0 0],rfl,j7 _,⟨[.slice none 0 0],[.slice none 0 0,.slice none 0 0],rfl,⟨none,0,rfl,jW _,nv _,.inl rfl⟩,⟨[.slice none 0 0],[.slice none 0 0],rfl,⟨none,0,rfl,jW _,nv _,.inl rfl⟩,⟨none,0,rfl,jW _,nv _,.inl rfl⟩⟩⟩⟩⟩⟩⟩
structure aL where
 bytes:(List Int)
 deriving DecidableEq,Inhabited
def cr:Rp aL:=qc (gr (rI .u8)) (fun x=>(x.bytes))
def ly:eE cr 0 (gr (rI .u8)) (fun x y=>{x with bytes:=y}):=bI aB (fun _ _=>rfl)
def CW: ∀S,cr.rc S [.slice none 0 0] ((⟨[]⟩:aL)):=fun _=>⟨none,0,rfl,jW _,nv _,.inl rfl⟩
structure ge where
 Nodes:(List aa)
 deriving DecidableEq,Inhabited
structure kK where
 at_:Int
 why:Int
 deriving DecidableEq,Inhabited
def oG:Rp kK:=qc (dg (rI .i64) (rI .i64)) (fun x=>(x.at_,x.why))
def q8:j6 oG 0 (rI .i64) (fun x=>x.at_):=(cE bQ)
def A3:eE oG 0 (rI .i64) (fun x y=>{x with at_:=y}):=bI cx (fun _ _=>rfl)
def w6:j6 oG 1 (rI .i64) (fun x=>x.why):=(ax bQ rfl)
def tv:eE oG 1 (rI .i64) (fun x y=>{x with why:=y}):=bI (aw aB rfl) (fun _ _=>rfl)
def LP: ∀S,oG.rc S [.int .i64 0,.int .i64 0] ((⟨(0:Int),(0:Int)⟩:kK)):=fun _=>⟨[.int .i64 0],[.int .i64 0],rfl,rfl,rfl⟩
structure af where
 place:kK
 own:(List Int)
 deriving DecidableEq,Inhabited
def gk:Rp af:=qc (dg oG (gr (rI .u8))) (fun x=>(x.place,x.own))
def fK:j6 gk 0 oG (fun x=>x.place):=(cE bQ)
def nZ:eE gk 0 oG (fun x y=>{x with place:=y}):=bI cx (fun _ _=>rfl)
def va:j6 gk 2 (gr (rI .u8)) (fun x=>x.own):=(ax bQ rfl)
structure aJ where
 Reader:af
 all:(List Int)
 bad:Bool
 deriving DecidableEq,Inhabited
def al:Rp aJ:=qc (dg (KM:Rp af) (dg (gr (rI .u8)) rB)) (fun x=>(x.Reader,x.all,x.bad))
def rL:j6 al 1 (gr (rI .u8)) (fun x=>x.all):=(cE (ax bQ rfl))
def rK:j6 al 2 rB (fun x=>x.bad):=(ax (ax bQ rfl) rfl)
def ry:eE al 2 rB (fun x y=>{x with bad:=y}):=bI (aw (aw aB rfl) rfl) (fun _ _=>rfl)
structure cX where
 Reader:af
 all:Int
 bad:Bool
 deriving DecidableEq,Inhabited
def cQ:Rp cX:=qc (dg (KM:Rp af) (dg (rI .i64) rB)) (fun x=>(x.Reader,x.all,x.bad))
def w5:j6 cQ 1 (rI .i64) (fun x=>x.all):=(cE (ax bQ rfl))
def w4:j6 cQ 2 rB (fun x=>x.bad):=(ax (ax bQ rfl) rfl)
def A2:eE cQ 2 rB (fun x y=>{x with bad:=y}):=bI (aw (aw aB rfl) rfl) (fun _ _=>rfl)
structure V0 where
 Bytes:(List Int)
 At:Int
 Bad:Bool
 deriving DecidableEq,Inhabited
structure VY where
 Nodes:Value
 At:Int
 Way:Int
 Cols:(List Int)
structure VZ where
 Nodes:Value
structure VM where
 Op:Int
 A:Int
 B:Int
 Table:Int
 Kinds:(List Int)
 Left:Bool
 Cond:aM
 Keys:(List Int)
 Aggs:(List fj)
 Items:Value
 Order:(List j3)
 Limit:Int
structure VL where
 Nodes:Value
structure DX where
 Reader:Value
 all:(List Int)
 bad:Bool
def pO:Rp DX:=qc (dg rV (dg (gr (rI .u8)) rB)) (fun x=>(x.Reader,x.all,x.bad))
def Cw:eE pO 0 rV (fun x y=>{x with Reader:=y}):=bI cx (fun _ _=>rfl)
def Cv:eE pO 1 (gr (rI .u8)) (fun x y=>{x with all:=y}):=bI (aw cx rfl) (fun _ _=>rfl)
def uZ(y:aJ)(v0:Value):DX:=⟨v0,y.all,y.bad⟩
def Fk: ∀S,pO.rc S [.pointer none,.slice none 0 0,.bool false] (uZ ((⟨(⟨(⟨(0:Int),(0:Int)⟩:kK),[]⟩:af),[],false⟩:aJ)) (.pointer none)):=fun _=>⟨[.pointer none],[.slice none 0 0,.bool false],rfl,⟨rfl,rfl⟩,⟨[.slice none 0 0],[.bool false],rfl,⟨none,0,rfl,jW _,nv _,.inl rfl⟩,rfl⟩⟩
structure Ka where
 nodes:(List aa)
 kinds:(List (List Int))
 open_:(List Int)
 n:aa
 a_:(List Int)
 b:(List Int)
 result:Value
def bW:Rp Ka:=qc (dg (gr bc) (dg (gr (gr (rI .i64))) (dg (KM:Rp (List Int)) (dg bc (dg (gr (rI .i64)) (dg (gr (rI .i64)) rV)))))) (fun x=>(x.nodes,x.kinds,x.open_,x.n,x.a_,x.b,x.result))
def u9:j6 bW 3 bc (fun x=>x.n):=(cE (ax (ax (ax bQ rfl) rfl) rfl))
def jx:j6 bW 15 (gr (rI .i64)) (fun x=>x.a_):=(cE (ax (ax (ax (ax bQ rfl) rfl) rfl) rfl))
def GB:j6 bW 16 (gr (rI .i64)) (fun x=>x.b):=(cE (ax (ax (ax (ax (ax bQ rfl) rfl) rfl) rfl) rfl))
def kx:j6 bW 17 rV (fun x=>x.result):=(ax (ax (ax (ax (ax (ax bQ rfl) rfl) rfl) rfl) rfl) rfl)
def ce(y:ai)(v6:Value):Ka:=⟨y.nodes,y.kinds,y.open_,y.n,y.a_,y.b,v6⟩
structure DY where
 place:kK
 own:Value
def n6:Rp DY:=qc (dg oG rV) (fun x=>(x.place,x.own))
def CL:j6 n6 2 rV (fun x=>x.own):=(ax bQ rfl)
def Cx:eE n6 2 rV (fun x y=>{x with own:=y}):=bI (aw aB rfl) (fun _ _=>rfl)
def rE(y:af)(v1:Value):DY:=⟨y.place,v1⟩
def Fl: ∀S,n6.rc S [.int .i64 0,.int .i64 0,.slice none 0 0] (rE ((⟨(⟨(0:Int),(0:Int)⟩:kK),[]⟩:af)) (an none 0 0)):=fun _=>⟨[.int .i64 0,.int .i64 0],[.slice none 0 0],rfl,LP _,⟨rfl,rfl⟩⟩
structure G8 where
 Reader:Value
 all:Int
 bad:Bool
def qU:Rp G8:=qc (dg rV (dg (rI .i64) rB)) (fun x=>(x.Reader,x.all,x.bad))
def Ep:eE qU 0 rV (fun x y=>{x with Reader:=y}):=bI cx (fun _ _=>rfl)
def Eo:eE qU 1 (rI .i64) (fun x y=>{x with all:=y}):=bI (aw cx rfl) (fun _ _=>rfl)
def wX(y:cX)(v0:Value):G8:=⟨v0,y.all,y.bad⟩
def Hl: ∀S,qU.rc S [.pointer none,.int .i64 0,.bool false] (wX ((⟨(⟨(⟨(0:Int),(0:Int)⟩:kK),[]⟩:af),(0:Int),false⟩:cX)) (.pointer none)):=fun _=>⟨[.pointer none],[.int .i64 0,.bool false],rfl,⟨rfl,rfl⟩,⟨[.int .i64 0],[.bool false],rfl,rfl,rfl⟩⟩
def gM{S:SH}{cs:List Value}{y:ai}{v6:Value}{xs6:(List Int)}(k6:(gr (rI .i64)).rc S [v6] xs6)(h:bW.rc S cs (ce y v6)):bh.rc S cs ((⟨y.nodes,y.kinds,y.open_,y.n,y.a_,y.b,xs6⟩:ai)):=by
 obtain⟨a0,b0,e0,h0,a1,b1,e1,Y,a2,b2,e2,H,a3,b3,e3,Q,a4,b4,e4,h4,a5,b5,e5,h5,h6⟩:=h
 exact⟨a0,b0,e0,h0,a1,b1,e1,Y,a2,b2,e2,H,a3,b3,e3,Q,a4,b4,e4,h4,a5,b5,e5,h5,(by rw [h6.1];exact k6)⟩
def zi{S:SH}{cs:List Value}{y:af}{v1:Value}{xs1:(List Int)}(k1:(gr (rI .u8)).rc S [v1] xs1)(h:n6.rc S cs (rE y v1)):gk.rc S cs ((⟨y.place,xs1⟩:af)):=by
 obtain⟨a0,b0,e0,h0,Y⟩:=h
 exact⟨a0,b0,e0,h0,(by rw [Y.1];exact k1)⟩
def kf(y:ai)(v:Value):s7 bh bW 17 rV (y) v (ce y v):=Jo (nG (nG (nG (nG (nG (nG (yS rfl) rfl) rfl) rfl) rfl) rfl) rfl) rfl
def gQ(y:ai)(u:Value)(v:Value):s7 bW bW 17 rV (ce y u) v (ce y v):=Jo (nG (nG (nG (nG (nG (nG (yS rfl) rfl) rfl) rfl) rfl) rfl) rfl) rfl
def dM(b:Nat)(x:ai)(i:OI):List OE:=[Z (rH bh [(1,an (i.h 0).1 (i.h 0).2 x.kinds.length),(2,an (i.h 1).1 (i.h 1).2 x.open_.length)]) 168 b x,tip (gr (rI .i64)) 69 (i.h 0).1 (i.h 0).2 x.kinds,cM (rI .i64) 3 (i.h 1).1 (i.h 1).2 x.open_]
def ea(b:Nat)(x:aL)(i:OI):List OE:=[Z (rH cr [(0,an (i.h 0).1 (i.h 0).2 x.bytes.length)]) 60 b x,tip (rI .u8) 5 (i.h 0).1 (i.h 0).2 x.bytes]
def Ro(b:Nat)(x:ai)(i:OI):List OE:=[Z (rH bW [(1,an (i.h 0).1 (i.h 0).2 x.kinds.length),(2,an (i.h 1).1 (i.h 1).2 x.open_.length)]) 168 b (ce x (an (i.h 2).1 (i.h 2).2 x.result.length)),tip (gr (rI .i64)) 69 (i.h 0).1 (i.h 0).2 x.kinds,cM (rI .i64) 3 (i.h 1).1 (i.h 1).2 x.open_,cM (rI .i64) 3 (i.h 2).1 (i.h 2).2 x.result]
def Uf{S:SH}{cs:List Value}{y:aJ}{v:Value}(h:pO.rc S cs (uZ y v)):(rH al [(0,v)]).rc S cs y:=by
 obtain⟨a0,b0,e0,h0,a1,b1,e1,Y,H⟩:=h
 refine⟨⟨a0,b0,e0,⟨v,h0.1,h0.2⟩,a1,b1,e1,Y,H⟩,fun p hp=>?_⟩
 simp at hp
 subst hp
 rw [e0,h0.1]
 rfl
def Ue{S:SH}{cs:List Value}{y:cX}{v:Value}(h:qU.rc S cs (wX y v)):(rH cQ [(0,v)]).rc S cs y:=by
 obtain⟨a0,b0,e0,h0,a1,b1,e1,Y,H⟩:=h
 refine⟨⟨a0,b0,e0,⟨v,h0.1,h0.2⟩,a1,b1,e1,Y,H⟩,fun p hp=>?_⟩
 simp at hp
 subst hp
 rw [e0,h0.1]
 rfl

end Go.Proofs.YtdohlidddcgfjaaGreat

