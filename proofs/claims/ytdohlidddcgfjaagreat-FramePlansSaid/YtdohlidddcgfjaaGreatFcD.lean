/- cE of this claim: D. -/
import Derived.Test.YtdohlidddcgfjaaGreatFcV3
import Derived.Test.YtdohlidddcgfjaaGreatFcV4
set_option linter.all false
namespace Go.Proofs.YtdohlidddcgfjaaGreat
open Go

structure aC where
 Kind:Int
 N:Int
 U:Int
 S:N1
 deriving DecidableEq,Inhabited
def bF:Rp aC:=nN (cH (rI .i64) (cH (rI .i64) (cH (rI .u64) rS))) (fun x=>(x.Kind,x.N,x.U,x.S))
def js:md bF 0 (rI .i64) (fun x=>x.Kind):=(dj cq)
def wN:gg bF 0 (rI .i64) (fun x y=>{x with Kind:=y}):=ce cV (fun _ _=>rfl)
def kZ:md bF 1 (rI .i64) (fun x=>x.N):=(dj (aF cq rfl))
def uu:gg bF 1 (rI .i64) (fun x y=>{x with N:=y}):=ce (aG cV rfl) (fun _ _=>rfl)
def sL:md bF 2 (rI .u64) (fun x=>x.U):=(dj (aF (aF cq rfl) rfl))
def Eh:gg bF 2 (rI .u64) (fun x y=>{x with U:=y}):=ce (aG (aG cV rfl) rfl) (fun _ _=>rfl)
def lZ:md bF 3 rS (fun x=>x.S):=(aF (aF (aF cq rfl) rfl) rfl)
def Eg:gg bF 3 rS (fun x y=>{x with S:=y}):=ce (aG (aG (aG aB rfl) rfl) rfl) (fun _ _=>rfl)
def lJ: ∀S,bF.rc S [.int .i64 0,.int .i64 0,.int .u64 0,.string ⟨#[]⟩] ((⟨(0:Int),(0:Int),(0:Int),[]⟩:aC)):=fun _=>⟨[.int .i64 0],[.int .i64 0,.int .u64 0,.string ⟨#[]⟩],rfl,rfl,⟨[.int .i64 0],[.int .u64 0,.string ⟨#[]⟩],rfl,rfl,⟨[.int .u64 0],[.string ⟨#[]⟩],rfl,rfl,rfl⟩⟩⟩
structure p9 where
 Rows:(List (List aC))
 End:Bool
 Count:Int
 deriving DecidableEq,Inhabited
def pD:Rp p9:=nN (cH (f6 (f6 bF)) (cH rB (rI .u64))) (fun x=>(x.Rows,x.End,x.Count))
def q8:md pD 0 (f6 (f6 bF)) (fun x=>x.Rows):=(dj cq)
def q7:md pD 1 rB (fun x=>x.End):=(dj (aF cq rfl))
def q6:md pD 2 (rI .u64) (fun x=>x.Count):=(aF (aF cq rfl) rfl)
def Ja: ∀S,pD.rc S [.slice none 0 0,.bool false,.int .u64 0] ((⟨[],false,(0:Int)⟩:p9)):=fun _=>⟨[.slice none 0 0],[.bool false,.int .u64 0],rfl,⟨none,0,rfl,eJ _,oW _,.inl rfl⟩,⟨[.bool false],[.int .u64 0],rfl,rfl,rfl⟩⟩
structure np where
 Kind:Int
 Session:Int
 Seq:Int
 Limit:Int
 Batch:p9
 deriving DecidableEq,Inhabited
def iw:Rp np:=nN (cH (rI .i64) (cH (rI .u32) (cH (rI .u64) (cH (rI .u64) pD)))) (fun x=>(x.Kind,x.Session,x.Seq,x.Limit,x.Batch))
def tg:md iw 0 (rI .i64) (fun x=>x.Kind):=(dj cq)
def vt:md iw 1 (rI .u32) (fun x=>x.Session):=(dj (aF cq rfl))
def pW:md iw 2 (rI .u64) (fun x=>x.Seq):=(dj (aF (aF cq rfl) rfl))
def rq:md iw 3 (rI .u64) (fun x=>x.Limit):=(dj (aF (aF (aF cq rfl) rfl) rfl))
def jF:md iw 4 pD (fun x=>x.Batch):=(aF (aF (aF (aF cq rfl) rfl) rfl) rfl)
def Gn: ∀S,iw.rc S [.int .i64 0,.int .u32 0,.int .u64 0,.int .u64 0,.slice none 0 0,.bool false,.int .u64 0] ((⟨(0:Int),(0:Int),(0:Int),(0:Int),(⟨[],false,(0:Int)⟩:p9)⟩:np)):=fun _=>⟨[.int .i64 0],[.int .u32 0,.int .u64 0,.int .u64 0,.slice none 0 0,.bool false,.int .u64 0],rfl,rfl,⟨[.int .u32 0],[.int .u64 0,.int .u64 0,.slice none 0 0,.bool false,.int .u64 0],rfl,rfl,⟨[.int .u64 0],[.int .u64 0,.slice none 0 0,.bool false,.int .u64 0],rfl,rfl,⟨[.int .u64 0],[.slice none 0 0,.bool false,.int .u64 0],rfl,rfl,Ja _⟩⟩⟩⟩
structure kF where
 Col:Int
 Desc:Bool
 deriving DecidableEq,Inhabited
def gy:Rp kF:=nN (cH (rI .i64) rB) (fun x=>(x.Col,x.Desc))
def uI:md gy 0 (rI .i64) (fun x=>x.Col):=(dj cq)
def Qy:gg gy 0 (rI .i64) (fun x y=>{x with Col:=y}):=ce cV (fun _ _=>rfl)
def EX:md gy 1 rB (fun x=>x.Desc):=(aF cq rfl)
def Qx:gg gy 1 rB (fun x y=>{x with Desc:=y}):=ce (aG aB rfl) (fun _ _=>rfl)
def K5: ∀S,gy.rc S [.int .i64 0,.bool false] ((⟨(0:Int),false⟩:kF)):=fun _=>⟨[.int .i64 0],[.bool false],rfl,rfl,rfl⟩
structure av where
 Tag:Int
 L:Int
 R:Int
 Col:Int
 Value:aC
 deriving DecidableEq,Inhabited
def bt:Rp av:=nN (cH (rI .i64) (cH (rI .i64) (cH (rI .i64) (cH (rI .i64) bF)))) (fun x=>(x.Tag,x.L,x.R,x.Col,x.Value))
def ef:md bt 0 (rI .i64) (fun x=>x.Tag):=(dj cq)
def Ab:gg bt 0 (rI .i64) (fun x y=>{x with Tag:=y}):=ce cV (fun _ _=>rfl)
def pY:md bt 1 (rI .i64) (fun x=>x.L):=(dj (aF cq rfl))
def sw:gg bt 1 (rI .i64) (fun x y=>{x with L:=y}):=ce (aG cV rfl) (fun _ _=>rfl)
def oa:md bt 2 (rI .i64) (fun x=>x.R):=(dj (aF (aF cq rfl) rfl))
def sv:gg bt 2 (rI .i64) (fun x y=>{x with R:=y}):=ce (aG (aG cV rfl) rfl) (fun _ _=>rfl)
def iR:md bt 3 (rI .i64) (fun x=>x.Col):=(dj (aF (aF (aF cq rfl) rfl) rfl))
def El:gg bt 3 (rI .i64) (fun x y=>{x with Col:=y}):=ce (aG (aG (aG cV rfl) rfl) rfl) (fun _ _=>rfl)
def k7:md bt 4 bF (fun x=>x.Value):=(aF (aF (aF (aF cq rfl) rfl) rfl) rfl)
def Lr:gg bt 4 bF (fun x y=>{x with Value:=y}):=ce (aG (aG (aG (aG aB rfl) rfl) rfl) rfl) (fun _ _=>rfl)
def lc: ∀S,bt.rc S [.int .i64 0,.int .i64 0,.int .i64 0,.int .i64 0,.int .i64 0,.int .i64 0,.int .u64 0,.string ⟨#[]⟩] ((⟨(0:Int),(0:Int),(0:Int),(0:Int),(⟨(0:Int),(0:Int),(0:Int),[]⟩:aC)⟩:av)):=fun _=>⟨[.int .i64 0],[.int .i64 0,.int .i64 0,.int .i64 0,.int .i64 0,.int .i64 0,.int .u64 0,.string ⟨#[]⟩],rfl,rfl,⟨[.int .i64 0],[.int .i64 0,.int .i64 0,.int .i64 0,.int .i64 0,.int .u64 0,.string ⟨#[]⟩],rfl,rfl,⟨[.int .i64 0],[.int .i64 0,.int .i64 0,.int .i64 0,.int .u64 0,.string ⟨#[]⟩],rfl,rfl,⟨[.int .i64 0],[.int .i64 0,.int .i64 0,.int .u64 0,.string ⟨#[]⟩],rfl,rfl,lJ _⟩⟩⟩⟩
structure aW where
 Nodes:(List av)
 deriving DecidableEq,Inhabited
def bN:Rp aW:=nN (f6 bt) (fun x=>(x.Nodes))
def dw:md bN 0 (f6 bt) (fun x=>x.Nodes):=cq
def OP:gg bN 0 (f6 bt) (fun x y=>{x with Nodes:=y}):=ce aB (fun _ _=>rfl)
def qO: ∀S,bN.rc S [.slice none 0 0] ((⟨[]⟩:aW)):=fun _=>⟨none,0,rfl,eJ _,oW _,.inl rfl⟩
structure fU where
 Tag:Int
 Arg:aW
 deriving DecidableEq,Inhabited
def fh:Rp fU:=nN (cH (rI .i64) bN) (fun x=>(x.Tag,x.Arg))
def hM:md fh 0 (rI .i64) (fun x=>x.Tag):=(dj cq)
def QG:gg fh 0 (rI .i64) (fun x y=>{x with Tag:=y}):=ce cV (fun _ _=>rfl)
def ma:md fh 1 bN (fun x=>x.Arg):=(aF cq rfl)
def QF:gg fh 1 bN (fun x y=>{x with Arg:=y}):=ce (aG aB rfl) (fun _ _=>rfl)
def tq: ∀S,fh.rc S [.int .i64 0,.slice none 0 0] ((⟨(0:Int),(⟨[]⟩:aW)⟩:fU)):=fun _=>⟨[.int .i64 0],[.slice none 0 0],rfl,rfl,qO _⟩
structure tV where
 Op:Int
 A:Int
 B:Int
 Table:Int
 Kinds:(List Int)
 Left:Bool
 Cond:aW
 Keys:(List Int)
 Aggs:(List fU)
 Items:(List aW)
 Order:(List kF)
 Limit:Int
 deriving DecidableEq,Inhabited
def aM:Rp tV:=nN (cH (rI .i64) (cH (rI .i64) (cH (rI .i64) (cH (rI .i64) (cH (f6 (rI .i64)) (cH rB (cH bN (cH (f6 (rI .i64)) (cH (f6 fh) (cH (f6 bN) (cH (f6 gy) (rI .i64)))))))))))) (fun x=>(x.Op,x.A,x.B,x.Table,x.Kinds,x.Left,x.Cond,x.Keys,x.Aggs,x.Items,x.Order,x.Limit))
def cB:md aM 0 (rI .i64) (fun x=>x.Op):=(dj cq)
def uv:gg aM 0 (rI .i64) (fun x y=>{x with Op:=y}):=ce cV (fun _ _=>rfl)
def fS:md aM 1 (rI .i64) (fun x=>x.A):=(dj (aF cq rfl))
def m0:gg aM 1 (rI .i64) (fun x y=>{x with A:=y}):=ce (aG cV rfl) (fun _ _=>rfl)
def hE:md aM 2 (rI .i64) (fun x=>x.B):=(dj (aF (aF cq rfl) rfl))
def mZ:gg aM 2 (rI .i64) (fun x y=>{x with B:=y}):=ce (aG (aG cV rfl) rfl) (fun _ _=>rfl)
def ip:md aM 3 (rI .i64) (fun x=>x.Table):=(dj (aF (aF (aF cq rfl) rfl) rfl))
def Lq:gg aM 3 (rI .i64) (fun x y=>{x with Table:=y}):=ce (aG (aG (aG cV rfl) rfl) rfl) (fun _ _=>rfl)
def dW:md aM 4 (f6 (rI .i64)) (fun x=>x.Kinds):=(dj (aF (aF (aF (aF cq rfl) rfl) rfl) rfl))
def Ek:gg aM 4 (f6 (rI .i64)) (fun x y=>{x with Kinds:=y}):=ce (aG (aG (aG (aG cV rfl) rfl) rfl) rfl) (fun _ _=>rfl)
def pX:md aM 5 rB (fun x=>x.Left):=(dj (aF (aF (aF (aF (aF cq rfl) rfl) rfl) rfl) rfl))
def Lp:gg aM 5 rB (fun x y=>{x with Left:=y}):=ce (aG (aG (aG (aG (aG cV rfl) rfl) rfl) rfl) rfl) (fun _ _=>rfl)
def iQ:md aM 6 bN (fun x=>x.Cond):=(dj (aF (aF (aF (aF (aF (aF cq rfl) rfl) rfl) rfl) rfl) rfl))
def Ej:gg aM 6 bN (fun x y=>{x with Cond:=y}):=ce (aG (aG (aG (aG (aG (aG cV rfl) rfl) rfl) rfl) rfl) rfl) (fun _ _=>rfl)
def dE:md aM 7 (f6 (rI .i64)) (fun x=>x.Keys):=(dj (aF (aF (aF (aF (aF (aF (aF cq rfl) rfl) rfl) rfl) rfl) rfl) rfl))
def Lo:gg aM 7 (f6 (rI .i64)) (fun x y=>{x with Keys:=y}):=ce (aG (aG (aG (aG (aG (aG (aG cV rfl) rfl) rfl) rfl) rfl) rfl) rfl) (fun _ _=>rfl)
def cO:md aM 8 (f6 fh) (fun x=>x.Aggs):=(dj (aF (aF (aF (aF (aF (aF (aF (aF cq rfl) rfl) rfl) rfl) rfl) rfl) rfl) rfl))
def Ln:gg aM 8 (f6 fh) (fun x y=>{x with Aggs:=y}):=ce (aG (aG (aG (aG (aG (aG (aG (aG cV rfl) rfl) rfl) rfl) rfl) rfl) rfl) rfl) (fun _ _=>rfl)
def io:md aM 9 (f6 bN) (fun x=>x.Items):=(dj (aF (aF (aF (aF (aF (aF (aF (aF (aF cq rfl) rfl) rfl) rfl) rfl) rfl) rfl) rfl) rfl))
def Lm:gg aM 9 (f6 bN) (fun x y=>{x with Items:=y}):=ce (aG (aG (aG (aG (aG (aG (aG (aG (aG cV rfl) rfl) rfl) rfl) rfl) rfl) rfl) rfl) rfl) (fun _ _=>rfl)
def ep:md aM 10 (f6 gy) (fun x=>x.Order):=(dj (aF (aF (aF (aF (aF (aF (aF (aF (aF (aF cq rfl) rfl) rfl) rfl) rfl) rfl) rfl) rfl) rfl) rfl))
def JE:gg aM 10 (f6 gy) (fun x y=>{x with Order:=y}):=ce (aG (aG (aG (aG (aG (aG (aG (aG (aG (aG cV rfl) rfl) rfl) rfl) rfl) rfl) rfl) rfl) rfl) rfl) (fun _ _=>rfl)
def jG:md aM 11 (rI .i64) (fun x=>x.Limit):=(aF (aF (aF (aF (aF (aF (aF (aF (aF (aF (aF cq rfl) rfl) rfl) rfl) rfl) rfl) rfl) rfl) rfl) rfl) rfl)
def JD:gg aM 11 (rI .i64) (fun x y=>{x with Limit:=y}):=ce (aG (aG (aG (aG (aG (aG (aG (aG (aG (aG (aG aB rfl) rfl) rfl) rfl) rfl) rfl) rfl) rfl) rfl) rfl) rfl) (fun _ _=>rfl)
def ie: ∀S,aM.rc S [.int .i64 0,.int .i64 0,.int .i64 0,.int .i64 0,.slice none 0 0,.bool false,.slice none 0 0,.slice none 0 0,.slice none 0 0,.slice none 0 0,.slice none 0 0,.int .i64 0] ((⟨(0:Int),(0:Int),(0:Int),(0:Int),[],false,(⟨[]⟩:aW),[],[],[],[],(0:Int)⟩:tV)):=fun _=>⟨[.int .i64 0],[.int .i64 0,.int .i64 0,.int .i64 0,.slice none 0 0,.bool false,.slice none 0 0,.slice none 0 0,.slice none 0 0,.slice none 0 0,.slice none 0 0,.int .i64 0],rfl,rfl,⟨[.int .i64 0],[.int .i64 0,.int .i64 0,.slice none 0 0,.bool false,.slice none 0 0,.slice none 0 0,.slice none 0 0,.slice none 0 0,.slice none 0 0,.int .i64 0],rfl,rfl,⟨[.int .i64 0],[.int .i64 0,.slice none 0 0,.bool false,.slice none 0 0,.slice none 0 0,.slice none 0 0,.slice none 0 0,.slice none 0 0,.int .i64 0],rfl,rfl,⟨[.int .i64 0],[.slice none 0 0,.bool false,.slice none 0 0,.slice none 0 0,.slice none 0 0,.slice none 0 0,.slice none 0 0,.int .i64 0],rfl,rfl,⟨[.slice none 0 0],[.bool false,.slice none 0 0,.slice none 0 0,.slice none 0 0,.slice none 0 0,.slice none 0 0,.int .i64 0],rfl,⟨none,0,rfl,eJ _,oW _,.inl rfl⟩,⟨[.bool false],[.slice none 0 0,.slice none 0 0,.slice none 0 0,.slice none 0 0,.slice none 0 0,.int .i64 0],rfl,rfl,⟨[.slice none 0 0],[.slice none 0 0,.slice none 0 0,.slice none 0 0,.slice none 0 0,.int .i64 0],rfl,qO _,⟨[.slice none 0 0],[.slice none 0 0,.slice none 0 0,.slice none 0 0,.int .i64 0],rfl,⟨none,0,rfl,eJ _,oW _,.inl rfl⟩,⟨[.slice none 0 0],[.slice none 0 0,.slice none 0 0,.int .i64 0],rfl,⟨none,0,rfl,eJ _,oW _,.inl rfl⟩,⟨[.slice none 0 0],[.slice none 0 0,.int .i64 0],rfl,⟨none,0,rfl,eJ _,oW _,.inl rfl⟩,⟨[.slice none 0 0],[.int .i64 0],rfl,⟨none,0,rfl,eJ _,oW _,.inl rfl⟩,rfl⟩⟩⟩⟩⟩⟩⟩⟩⟩⟩⟩
structure dv where
 Nodes:(List tV)
 At:Int
 Way:Int
 Cols:(List Int)
 deriving DecidableEq,Inhabited
def cM:Rp dv:=nN (cH (f6 aM) (cH (rI .i64) (cH (rI .i64) (f6 (rI .i64))))) (fun x=>(x.Nodes,x.At,x.Way,x.Cols))
def mF:md cM 0 (f6 aM) (fun x=>x.Nodes):=(dj cq)
def OO:gg cM 0 (f6 aM) (fun x y=>{x with Nodes:=y}):=ce cV (fun _ _=>rfl)
def oT:md cM 1 (rI .i64) (fun x=>x.At):=(dj (aF cq rfl))
def GJ:gg cM 1 (rI .i64) (fun x y=>{x with At:=y}):=ce (aG cV rfl) (fun _ _=>rfl)
def oS:md cM 2 (rI .i64) (fun x=>x.Way):=(dj (aF (aF cq rfl) rfl))
def GI:gg cM 2 (rI .i64) (fun x y=>{x with Way:=y}):=ce (aG (aG cV rfl) rfl) (fun _ _=>rfl)
def lG:md cM 3 (f6 (rI .i64)) (fun x=>x.Cols):=(aF (aF (aF cq rfl) rfl) rfl)
def GH:gg cM 3 (f6 (rI .i64)) (fun x y=>{x with Cols:=y}):=ce (aG (aG (aG aB rfl) rfl) rfl) (fun _ _=>rfl)
def nf: ∀S,cM.rc S [.slice none 0 0,.int .i64 0,.int .i64 0,.slice none 0 0] ((⟨[],(0:Int),(0:Int),[]⟩:dv)):=fun _=>⟨[.slice none 0 0],[.int .i64 0,.int .i64 0,.slice none 0 0],rfl,⟨none,0,rfl,eJ _,oW _,.inl rfl⟩,⟨[.int .i64 0],[.int .i64 0,.slice none 0 0],rfl,rfl,⟨[.int .i64 0],[.slice none 0 0],rfl,rfl,⟨none,0,rfl,eJ _,oW _,.inl rfl⟩⟩⟩⟩
structure eV where
 Frags:(List dv)
 deriving DecidableEq,Inhabited
def gq:Rp eV:=nN (f6 cM) (fun x=>(x.Frags))
def gV:md gq 0 (f6 cM) (fun x=>x.Frags):=cq
def ON:gg gq 0 (f6 cM) (fun x y=>{x with Frags:=y}):=ce aB (fun _ _=>rfl)
def u3: ∀S,gq.rc S [.slice none 0 0] ((⟨[]⟩:eV)):=fun _=>⟨none,0,rfl,eJ _,oW _,.inl rfl⟩
structure rY where
 Kind:Int
 From:Int
 To:Int
 Epoch:Int
 Frag:Int
 Sites:Int
 Plan:eV
 Packet:np
 Err:Int
 deriving DecidableEq,Inhabited
def iC:Rp rY:=nN (cH (rI .i64) (cH (rI .i64) (cH (rI .i64) (cH (rI .i64) (cH (rI .i64) (cH (rI .i64) (cH gq (cH iw (rI .i64))))))))) (fun x=>(x.Kind,x.From,x.To,x.Epoch,x.Frag,x.Sites,x.Plan,x.Packet,x.Err))
def wt:md iC 0 (rI .i64) (fun x=>x.Kind):=(dj cq)
def JC:gg iC 0 (rI .i64) (fun x y=>{x with Kind:=y}):=ce cV (fun _ _=>rfl)
def BC:md iC 1 (rI .i64) (fun x=>x.From):=(dj (aF cq rfl))
def JB:gg iC 1 (rI .i64) (fun x y=>{x with From:=y}):=ce (aG cV rfl) (fun _ _=>rfl)
def BB:md iC 2 (rI .i64) (fun x=>x.To):=(dj (aF (aF cq rfl) rfl))
def QE:gg iC 2 (rI .i64) (fun x y=>{x with To:=y}):=ce (aG (aG cV rfl) rfl) (fun _ _=>rfl)
def yA:md iC 3 (rI .i64) (fun x=>x.Epoch):=(dj (aF (aF (aF cq rfl) rfl) rfl))
def JA:gg iC 3 (rI .i64) (fun x y=>{x with Epoch:=y}):=ce (aG (aG (aG cV rfl) rfl) rfl) (fun _ _=>rfl)
def yz:md iC 4 (rI .i64) (fun x=>x.Frag):=(dj (aF (aF (aF (aF cq rfl) rfl) rfl) rfl))
def QD:gg iC 4 (rI .i64) (fun x y=>{x with Frag:=y}):=ce (aG (aG (aG (aG cV rfl) rfl) rfl) rfl) (fun _ _=>rfl)
def yy:md iC 5 (rI .i64) (fun x=>x.Sites):=(dj (aF (aF (aF (aF (aF cq rfl) rfl) rfl) rfl) rfl))
def QC:gg iC 5 (rI .i64) (fun x y=>{x with Sites:=y}):=ce (aG (aG (aG (aG (aG cV rfl) rfl) rfl) rfl) rfl) (fun _ _=>rfl)
def BA:md iC 6 gq (fun x=>x.Plan):=(dj (aF (aF (aF (aF (aF (aF cq rfl) rfl) rfl) rfl) rfl) rfl))
def QB:gg iC 6 gq (fun x y=>{x with Plan:=y}):=ce (aG (aG (aG (aG (aG (aG cV rfl) rfl) rfl) rfl) rfl) rfl) (fun _ _=>rfl)
def yx:md iC 7 iw (fun x=>x.Packet):=(dj (aF (aF (aF (aF (aF (aF (aF cq rfl) rfl) rfl) rfl) rfl) rfl) rfl))
def QA:gg iC 7 iw (fun x y=>{x with Packet:=y}):=ce (aG (aG (aG (aG (aG (aG (aG cV rfl) rfl) rfl) rfl) rfl) rfl) rfl) (fun _ _=>rfl)
def yw:md iC 14 (rI .i64) (fun x=>x.Err):=(aF (aF (aF (aF (aF (aF (aF (aF cq rfl) rfl) rfl) rfl) rfl) rfl) rfl) rfl)
def Qz:gg iC 14 (rI .i64) (fun x y=>{x with Err:=y}):=ce (aG (aG (aG (aG (aG (aG (aG (aG aB rfl) rfl) rfl) rfl) rfl) rfl) rfl) rfl) (fun _ _=>rfl)
def B5: ∀S,iC.rc S [.int .i64 0,.int .i64 0,.int .i64 0,.int .i64 0,.int .i64 0,.int .i64 0,.slice none 0 0,.int .i64 0,.int .u32 0,.int .u64 0,.int .u64 0,.slice none 0 0,.bool false,.int .u64 0,.int .i64 0] ((⟨(0:Int),(0:Int),(0:Int),(0:Int),(0:Int),(0:Int),(⟨[]⟩:eV),(⟨(0:Int),(0:Int),(0:Int),(0:Int),(⟨[],false,(0:Int)⟩:p9)⟩:np),(0:Int)⟩:rY)):=fun _=>⟨[.int .i64 0],[.int .i64 0,.int .i64 0,.int .i64 0,.int .i64 0,.int .i64 0,.slice none 0 0,.int .i64 0,.int .u32 0,.int .u64 0,.int .u64 0,.slice none 0 0,.bool false,.int .u64 0,.int .i64 0],rfl,rfl,⟨[.int .i64 0],[.int .i64 0,.int .i64 0,.int .i64 0,.int .i64 0,.slice none 0 0,.int .i64 0,.int .u32 0,.int .u64 0,.int .u64 0,.slice none 0 0,.bool false,.int .u64 0,.int .i64 0],rfl,rfl,⟨[.int .i64 0],[.int .i64 0,.int .i64 0,.int .i64 0,.slice none 0 0,.int .i64 0,.int .u32 0,.int .u64 0,.int .u64 0,.slice none 0 0,.bool false,.int .u64 0,.int .i64 0],rfl,rfl,⟨[.int .i64 0],[.int .i64 0,.int .i64 0,.slice none 0 0,.int .i64 0,.int .u32 0,.int .u64 0,.int .u64 0,.slice none 0 0,.bool false,.int .u64 0,.int .i64 0],rfl,rfl,⟨[.int .i64 0],[.int .i64 0,.slice none 0 0,.int .i64 0,.int .u32 0,.int .u64 0,.int .u64 0,.slice none 0 0,.bool false,.int .u64 0,.int .i64 0],rfl,rfl,⟨[.int .i64 0],[.slice none 0 0,.int .i64 0,.int .u32 0,.int .u64 0,.int .u64 0,.slice none 0 0,.bool false,.int .u64 0,.int .i64 0],rfl,rfl,⟨[.slice none 0 0],[.int .i64 0,.int .u32 0,.int .u64 0,.int .u64 0,.slice none 0 0,.bool false,.int .u64 0,.int .i64 0],rfl,u3 _,⟨[.int .i64 0,.int .u32 0,.int .u64 0,.int .u64 0,.slice none 0 0,.bool false,.int .u64 0],[.int .i64 0],rfl,Gn _,rfl⟩⟩⟩⟩⟩⟩⟩⟩
structure aq where
 nodes:(List tV)
 kinds:(List (List Int))
 open_:(List Int)
 n:tV
 a_:(List Int)
 b:(List Int)
 result:(List Int)
 deriving DecidableEq,Inhabited
def bQ:Rp aq:=nN (cH (f6 aM) (cH (f6 (f6 (rI .i64))) (cH (OW:Rp (List Int)) (cH aM (cH (f6 (rI .i64)) (cH (f6 (rI .i64)) (f6 (rI .i64)))))))) (fun x=>(x.nodes,x.kinds,x.open_,x.n,x.a_,x.b,x.result))
def Cr:md bQ 0 (f6 aM) (fun x=>x.nodes):=(dj cq)
def OM:gg bQ 0 (f6 aM) (fun x y=>{x with nodes:=y}):=ce cV (fun _ _=>rfl)
def OL:gg bQ 1 (f6 (f6 (rI .i64))) (fun x y=>{x with kinds:=y}):=ce (aG cV rfl) (fun _ _=>rfl)
def OK:gg bQ 2 (OW:Rp (List Int)) (fun x y=>{x with open_:=y}):=ce (aG (aG cV rfl) rfl) (fun _ _=>rfl)
def gx:md bQ 3 aM (fun x=>x.n):=(dj (aF (aF (aF cq rfl) rfl) rfl))
def OJ:gg bQ 3 aM (fun x y=>{x with n:=y}):=ce (aG (aG (aG cV rfl) rfl) rfl) (fun _ _=>rfl)
def qt:md bQ 15 (f6 (rI .i64)) (fun x=>x.a_):=(dj (aF (aF (aF (aF cq rfl) rfl) rfl) rfl))
def GG:gg bQ 15 (f6 (rI .i64)) (fun x y=>{x with a_:=y}):=ce (aG (aG (aG (aG cV rfl) rfl) rfl) rfl) (fun _ _=>rfl)
def Hc:md bQ 16 (f6 (rI .i64)) (fun x=>x.b):=(dj (aF (aF (aF (aF (aF cq rfl) rfl) rfl) rfl) rfl))
def GF:gg bQ 16 (f6 (rI .i64)) (fun x y=>{x with b:=y}):=ce (aG (aG (aG (aG (aG cV rfl) rfl) rfl) rfl) rfl) (fun _ _=>rfl)
def Cq:md bQ 17 (f6 (rI .i64)) (fun x=>x.result):=(aF (aF (aF (aF (aF (aF cq rfl) rfl) rfl) rfl) rfl) rfl)
def ua:gg bQ 17 (f6 (rI .i64)) (fun x y=>{x with result:=y}):=ce (aG (aG (aG (aG (aG (aG aB rfl) rfl) rfl) rfl) rfl) rfl) (fun _ _=>rfl)
def SS: ∀S,bQ.rc S [.slice none 0 0,.slice none 0 0,.slice none 0 0,.int .i64 0,.int .i64 0,.int .i64 0,.int .i64 0,.slice none 0 0,.bool false,.slice none 0 0,.slice none 0 0,.slice none 0 0,.slice none 0 0,.slice none 0 0,.int .i64 0,.slice none 0 0,.slice none 0 0,.slice none 0 0] ((⟨[],[],[],(⟨(0:Int),(0:Int),(0:Int),(0:Int),[],false,(⟨[]⟩:aW),[],[],[],[],(0:Int)⟩:tV),[],[],[]⟩:aq)):=fun _=>⟨[.slice none 0 0],[.slice none 0 0,.slice none 0 0,.int .i64 0,.int .i64 0,.int .i64 0,.int .i64 0,.slice none 0 0,.bool false,.slice none 0 0,.slice none 0 0,.slice none 0 0,.slice none 0 0,.slice none 0 0,.int .i64 0,.slice none 0 0,.slice none 0 0,.slice none 0 0],rfl,⟨none,0,rfl,eJ _,oW _,.inl rfl⟩,⟨[.slice none 0 0],[.slice none 0 0,.int .i64 0,.int .i64 0,.int .i64 0,.int .i64 0,.slice none 0 0,.bool false,.slice none 0 0,.slice none 0 0,.slice none 0 0,.slice none 0 0,.slice none 0 0,.int .i64 0,.slice none 0 0,.slice none 0 0,.slice none 0 0],rfl,⟨none,0,rfl,eJ _,oW _,.inl rfl⟩,⟨[.slice none 0 0],[.int .i64 0,.int .i64 0,.int .i64 0,.int .i64 0,.slice none 0 0,.bool false,.slice none 0 0,.slice none 0 0,.slice none 0 0,.slice none 0 0,.slice none 0 0,.int .i64 0,.slice none 0 0,.slice none 0 0,.slice none 0 0],rfl,⟨_,rfl,rfl⟩,⟨[.int .i64 0,.int .i64 0,.int .i64 0,.int .i64 0,.slice none 0 0,.bool false,.slice none 0 0,.slice none 0 0,.slice none 0 0,.slice none 0 0,.slice none 0 0,.int .i64 0],[.slice none 0 0,.slice none 0 0,.slice none 0 0],rfl,ie _,⟨[.slice none 0 0],[.slice none 0 0,.slice none 0 0],rfl,⟨none,0,rfl,eJ _,oW _,.inl rfl⟩,⟨[.slice none 0 0],[.slice none 0 0],rfl,⟨none,0,rfl,eJ _,oW _,.inl rfl⟩,⟨none,0,rfl,eJ _,oW _,.inl rfl⟩⟩⟩⟩⟩⟩⟩
structure bg where
 bytes:(List Int)
 deriving DecidableEq,Inhabited
def dc:Rp bg:=nN (f6 (rI .u8)) (fun x=>(x.bytes))
def nS:gg dc 0 (f6 (rI .u8)) (fun x y=>{x with bytes:=y}):=ce aB (fun _ _=>rfl)
def Gm: ∀S,dc.rc S [.slice none 0 0] ((⟨[]⟩:bg)):=fun _=>⟨none,0,rfl,eJ _,oW _,.inl rfl⟩
structure dZ where
 Nodes:(List tV)
 deriving DecidableEq,Inhabited
def lP:Rp dZ:=nN (f6 aM) (fun x=>(x.Nodes))
def m8:md lP 0 (f6 aM) (fun x=>x.Nodes):=cq
def Ei:gg lP 0 (f6 aM) (fun x y=>{x with Nodes:=y}):=ce aB (fun _ _=>rfl)
def I9: ∀S,lP.rc S [.slice none 0 0] ((⟨[]⟩:dZ)):=fun _=>⟨none,0,rfl,eJ _,oW _,.inl rfl⟩
structure na where
 at_:Int
 why:Int
 deriving DecidableEq,Inhabited
def rL:Rp na:=nN (cH (rI .i64) (rI .i64)) (fun x=>(x.at_,x.why))
def uH:md rL 0 (rI .i64) (fun x=>x.at_):=(dj cq)
def Ef:gg rL 0 (rI .i64) (fun x y=>{x with at_:=y}):=ce cV (fun _ _=>rfl)
def Aq:md rL 1 (rI .i64) (fun x=>x.why):=(aF cq rfl)
def wM:gg rL 1 (rI .i64) (fun x y=>{x with why:=y}):=ce (aG aB rfl) (fun _ _=>rfl)
def PZ: ∀S,rL.rc S [.int .i64 0,.int .i64 0] ((⟨(0:Int),(0:Int)⟩:na)):=fun _=>⟨[.int .i64 0],[.int .i64 0],rfl,rfl,rfl⟩
structure an where
 place:na
 own:(List Int)
 deriving DecidableEq,Inhabited
def iW:Rp an:=nN (cH rL (f6 (rI .u8))) (fun x=>(x.place,x.own))
def iv:md iW 0 rL (fun x=>x.place):=(dj cq)
def re:gg iW 0 rL (fun x y=>{x with place:=y}):=ce cV (fun _ _=>rfl)
def yv:md iW 2 (f6 (rI .u8)) (fun x=>x.own):=(aF cq rfl)
structure be where
 Reader:an
 all:(List Int)
 bad:Bool
 deriving DecidableEq,Inhabited
def aw:Rp be:=nN (cH (OW:Rp an) (cH (f6 (rI .u8)) rB)) (fun x=>(x.Reader,x.all,x.bad))
def vr:md aw 1 (f6 (rI .u8)) (fun x=>x.all):=(dj (aF cq rfl))
def vq:md aw 2 rB (fun x=>x.bad):=(aF (aF cq rfl) rfl)
def u7:gg aw 2 rB (fun x y=>{x with bad:=y}):=ce (aG (aG aB rfl) rfl) (fun _ _=>rfl)
structure ea where
 Reader:an
 all:Int
 bad:Bool
 deriving DecidableEq,Inhabited
def dM:Rp ea:=nN (cH (OW:Rp an) (cH (rI .i64) rB)) (fun x=>(x.Reader,x.all,x.bad))
def Ap:md dM 1 (rI .i64) (fun x=>x.all):=(dj (aF cq rfl))
def Ao:md dM 2 rB (fun x=>x.bad):=(aF (aF cq rfl) rfl)
def Ee:gg dM 2 rB (fun x y=>{x with bad:=y}):=ce (aG (aG aB rfl) rfl) (fun _ _=>rfl)
structure abU where
 Bytes:(List Int)
 At:Int
 Bad:Bool
 deriving DecidableEq,Inhabited
structure abT where
 Nodes:Value
 At:Int
 Way:Int
 Cols:(List Int)
structure N7 where
 Nodes:Value
def oy:Rp N7:=nN rV (fun x=>(x.Nodes))
def tf:md oy 0 rV (fun x=>x.Nodes):=cq
def qm(y:aW)(v0:Value):N7:=⟨v0⟩
def Og: ∀S,oy.rc S [.slice none 0 0] (qm ((⟨[]⟩:aW)) (ay none 0 0)):=fun _=>⟨rfl,rfl⟩
structure V5 where
 Op:Int
 A:Int
 B:Int
 Table:Int
 Kinds:(List Int)
 Left:Bool
 Cond:aW
 Keys:(List Int)
 Aggs:Value
 Items:(List aW)
 Order:Value
 Limit:Int
structure KQ where
 Op:Int
 A:Int
 B:Int
 Table:Int
 Kinds:(List Int)
 Left:Bool
 Cond:aW
 Keys:(List Int)
 Aggs:(List fU)
 Items:Value
 Order:(List kF)
 Limit:Int
def lO:Rp KQ:=nN (cH (rI .i64) (cH (rI .i64) (cH (rI .i64) (cH (rI .i64) (cH (f6 (rI .i64)) (cH rB (cH bN (cH (f6 (rI .i64)) (cH (f6 fh) (cH rV (cH (f6 gy) (rI .i64)))))))))))) (fun x=>(x.Op,x.A,x.B,x.Table,x.Kinds,x.Left,x.Cond,x.Keys,x.Aggs,x.Items,x.Order,x.Limit))
def HT:gg lO 0 (rI .i64) (fun x y=>{x with Op:=y}):=ce cV (fun _ _=>rfl)
def HS:gg lO 1 (rI .i64) (fun x y=>{x with A:=y}):=ce (aG cV rfl) (fun _ _=>rfl)
def HR:gg lO 2 (rI .i64) (fun x y=>{x with B:=y}):=ce (aG (aG cV rfl) rfl) (fun _ _=>rfl)
def Is:md lO 9 rV (fun x=>x.Items):=(dj (aF (aF (aF (aF (aF (aF (aF (aF (aF cq rfl) rfl) rfl) rfl) rfl) rfl) rfl) rfl) rfl))
def pS(y:tV)(v9:Value):KQ:=⟨y.Op,y.A,y.B,y.Table,y.Kinds,y.Left,y.Cond,y.Keys,y.Aggs,v9,y.Order,y.Limit⟩
def DU: ∀S,lO.rc S [.int .i64 0,.int .i64 0,.int .i64 0,.int .i64 0,.slice none 0 0,.bool false,.slice none 0 0,.slice none 0 0,.slice none 0 0,.slice none 0 0,.slice none 0 0,.int .i64 0] (pS ((⟨(0:Int),(0:Int),(0:Int),(0:Int),[],false,(⟨[]⟩:aW),[],[],[],[],(0:Int)⟩:tV)) (ay none 0 0)):=fun _=>⟨[.int .i64 0],[.int .i64 0,.int .i64 0,.int .i64 0,.slice none 0 0,.bool false,.slice none 0 0,.slice none 0 0,.slice none 0 0,.slice none 0 0,.slice none 0 0,.int .i64 0],rfl,rfl,⟨[.int .i64 0],[.int .i64 0,.int .i64 0,.slice none 0 0,.bool false,.slice none 0 0,.slice none 0 0,.slice none 0 0,.slice none 0 0,.slice none 0 0,.int .i64 0],rfl,rfl,⟨[.int .i64 0],[.int .i64 0,.slice none 0 0,.bool false,.slice none 0 0,.slice none 0 0,.slice none 0 0,.slice none 0 0,.slice none 0 0,.int .i64 0],rfl,rfl,⟨[.int .i64 0],[.slice none 0 0,.bool false,.slice none 0 0,.slice none 0 0,.slice none 0 0,.slice none 0 0,.slice none 0 0,.int .i64 0],rfl,rfl,⟨[.slice none 0 0],[.bool false,.slice none 0 0,.slice none 0 0,.slice none 0 0,.slice none 0 0,.slice none 0 0,.int .i64 0],rfl,⟨none,0,rfl,eJ _,oW _,.inl rfl⟩,⟨[.bool false],[.slice none 0 0,.slice none 0 0,.slice none 0 0,.slice none 0 0,.slice none 0 0,.int .i64 0],rfl,rfl,⟨[.slice none 0 0],[.slice none 0 0,.slice none 0 0,.slice none 0 0,.slice none 0 0,.int .i64 0],rfl,qO _,⟨[.slice none 0 0],[.slice none 0 0,.slice none 0 0,.slice none 0 0,.int .i64 0],rfl,⟨none,0,rfl,eJ _,oW _,.inl rfl⟩,⟨[.slice none 0 0],[.slice none 0 0,.slice none 0 0,.int .i64 0],rfl,⟨none,0,rfl,eJ _,oW _,.inl rfl⟩,⟨[.slice none 0 0],[.slice none 0 0,.int .i64 0],rfl,⟨rfl,rfl⟩,⟨[.slice none 0 0],[.int .i64 0],rfl,⟨none,0,rfl,eJ _,oW _,.inl rfl⟩,rfl⟩⟩⟩⟩⟩⟩⟩⟩⟩⟩⟩
structure KP where
 Nodes:Value
def nY:Rp KP:=nN rV (fun x=>(x.Nodes))
def qr:md nY 0 rV (fun x=>x.Nodes):=cq
def pR(y:dZ)(v0:Value):KP:=⟨v0⟩
def K0: ∀S,nY.rc S [.slice none 0 0] (pR ((⟨[]⟩:dZ)) (ay none 0 0)):=fun _=>⟨rfl,rfl⟩
structure Hp where
 Reader:Value
 all:(List Int)
 bad:Bool
def s7:Rp Hp:=nN (cH rV (cH (f6 (rI .u8)) rB)) (fun x=>(x.Reader,x.all,x.bad))
def FT:gg s7 0 rV (fun x y=>{x with Reader:=y}):=ce cV (fun _ _=>rfl)
def FS:gg s7 1 (f6 (rI .u8)) (fun x y=>{x with all:=y}):=ce (aG cV rfl) (fun _ _=>rfl)
def ym(y:be)(v0:Value):Hp:=⟨v0,y.all,y.bad⟩
def I7: ∀S,s7.rc S [.pointer none,.slice none 0 0,.bool false] (ym ((⟨(⟨(⟨(0:Int),(0:Int)⟩:na),[]⟩:an),[],false⟩:be)) (.pointer none)):=fun _=>⟨[.pointer none],[.slice none 0 0,.bool false],rfl,⟨rfl,rfl⟩,⟨[.slice none 0 0],[.bool false],rfl,⟨none,0,rfl,eJ _,oW _,.inl rfl⟩,rfl⟩⟩
structure N6 where
 nodes:(List tV)
 kinds:(List (List Int))
 open_:(List Int)
 n:tV
 a_:(List Int)
 b:(List Int)
 result:Value
def cG:Rp N6:=nN (cH (f6 aM) (cH (f6 (f6 (rI .i64))) (cH (OW:Rp (List Int)) (cH aM (cH (f6 (rI .i64)) (cH (f6 (rI .i64)) rV)))))) (fun x=>(x.nodes,x.kinds,x.open_,x.n,x.a_,x.b,x.result))
def yu:md cG 3 aM (fun x=>x.n):=(dj (aF (aF (aF cq rfl) rfl) rfl))
def lz:md cG 15 (f6 (rI .i64)) (fun x=>x.a_):=(dj (aF (aF (aF (aF cq rfl) rfl) rfl) rfl))
def Kq:md cG 16 (f6 (rI .i64)) (fun x=>x.b):=(dj (aF (aF (aF (aF (aF cq rfl) rfl) rfl) rfl) rfl))
def mS:md cG 17 rV (fun x=>x.result):=(aF (aF (aF (aF (aF (aF cq rfl) rfl) rfl) rfl) rfl) rfl)
def cR(y:aq)(v6:Value):N6:=⟨y.nodes,y.kinds,y.open_,y.n,y.a_,y.b,v6⟩
structure Hq where
 place:na
 own:Value
def rf:Rp Hq:=nN (cH rL rV) (fun x=>(x.place,x.own))
def F8:md rf 2 rV (fun x=>x.own):=(aF cq rfl)
def FU:gg rf 2 rV (fun x y=>{x with own:=y}):=ce (aG aB rfl) (fun _ _=>rfl)
def vn(y:an)(v1:Value):Hq:=⟨y.place,v1⟩
def I8: ∀S,rf.rc S [.int .i64 0,.int .i64 0,.slice none 0 0] (vn ((⟨(⟨(0:Int),(0:Int)⟩:na),[]⟩:an)) (ay none 0 0)):=fun _=>⟨[.int .i64 0,.int .i64 0],[.slice none 0 0],rfl,PZ _,⟨rfl,rfl⟩⟩
structure KO where
 Reader:Value
 all:Int
 bad:Bool
def uw:Rp KO:=nN (cH rV (cH (rI .i64) rB)) (fun x=>(x.Reader,x.all,x.bad))
def HQ:gg uw 0 rV (fun x y=>{x with Reader:=y}):=ce cV (fun _ _=>rfl)
def HP:gg uw 1 (rI .i64) (fun x y=>{x with all:=y}):=ce (aG cV rfl) (fun _ _=>rfl)
def Am(y:ea)(v0:Value):KO:=⟨v0,y.all,y.bad⟩
def KZ: ∀S,uw.rc S [.pointer none,.int .i64 0,.bool false] (Am ((⟨(⟨(⟨(0:Int),(0:Int)⟩:na),[]⟩:an),(0:Int),false⟩:ea)) (.pointer none)):=fun _=>⟨[.pointer none],[.int .i64 0,.bool false],rfl,⟨rfl,rfl⟩,⟨[.int .i64 0],[.bool false],rfl,rfl,rfl⟩⟩
def Fh{S:SH}{cs:List Value}{y:aW}{v0:Value}{xs0:(List av)}(k0:(f6 bt).rc S [v0] xs0)(h:oy.rc S cs (qm y v0)):bN.rc S cs ((⟨xs0⟩:aW)):=by
 have h0:=h
 exact(by rw [h0.1];exact k0)
def Do{S:SH}{cs:List Value}{y:tV}{v9:Value}{xs9:(List aW)}(k9:(f6 bN).rc S [v9] xs9)(h:lO.rc S cs (pS y v9)):aM.rc S cs ((⟨y.Op,y.A,y.B,y.Table,y.Kinds,y.Left,y.Cond,y.Keys,y.Aggs,xs9,y.Order,y.Limit⟩:tV)):=by
 obtain⟨a0,b0,e0,h0,a1,b1,e1,X,a2,b2,e2,K,a3,b3,e3,h3,a4,b4,e4,h4,a5,b5,e5,h5,a6,b6,e6,h6,a7,b7,e7,h7,a8,b8,e8,h8,a9,b9,e9,h9,a10,b10,e10,h10,h11⟩:=h
 exact⟨a0,b0,e0,h0,a1,b1,e1,X,a2,b2,e2,K,a3,b3,e3,h3,a4,b4,e4,h4,a5,b5,e5,h5,a6,b6,e6,h6,a7,b7,e7,h7,a8,b8,e8,h8,a9,b9,e9,(by rw [h9.1];exact k9),a10,b10,e10,h10,h11⟩
def Dn{S:SH}{cs:List Value}{y:dZ}{v0:Value}{xs0:(List tV)}(k0:(f6 aM).rc S [v0] xs0)(h:nY.rc S cs (pR y v0)):lP.rc S cs ((⟨xs0⟩:dZ)):=by
 have h0:=h
 exact(by rw [h0.1];exact k0)
def jy{S:SH}{cs:List Value}{y:aq}{v6:Value}{xs6:(List Int)}(k6:(f6 (rI .i64)).rc S [v6] xs6)(h:cG.rc S cs (cR y v6)):bQ.rc S cs ((⟨y.nodes,y.kinds,y.open_,y.n,y.a_,y.b,xs6⟩:aq)):=by
 obtain⟨a0,b0,e0,h0,a1,b1,e1,X,a2,b2,e2,K,a3,b3,e3,h3,a4,b4,e4,h4,a5,b5,e5,h5,h6⟩:=h
 exact⟨a0,b0,e0,h0,a1,b1,e1,X,a2,b2,e2,K,a3,b3,e3,h3,a4,b4,e4,h4,a5,b5,e5,h5,(by rw [h6.1];exact k6)⟩
def CA{S:SH}{cs:List Value}{y:an}{v1:Value}{xs1:(List Int)}(k1:(f6 (rI .u8)).rc S [v1] xs1)(h:rf.rc S cs (vn y v1)):iW.rc S cs ((⟨y.place,xs1⟩:an)):=by
 obtain⟨a0,b0,e0,h0,X⟩:=h
 exact⟨a0,b0,e0,h0,(by rw [X.1];exact k1)⟩
def tB(y:aW)(u:Value)(v:Value):sm oy oy 0 rV (qm y u) v (qm y v):=A2 (su rfl) rfl
def xW(y:tV)(u:Value)(v:Value):sm lO lO 9 rV (pS y u) v (pS y v):=A2 (j8 (j8 (j8 (j8 (j8 (j8 (j8 (j8 (j8 (Tk (su rfl) rfl) rfl) rfl) rfl) rfl) rfl) rfl) rfl) rfl) rfl) rfl
def s6(y:dZ)(u:Value)(v:Value):sm nY nY 0 rV (pR y u) v (pR y v):=A2 (su rfl) rfl
def mJ(y:aq)(v:Value):sm bQ cG 17 rV (y) v (cR y v):=A2 (j8 (j8 (j8 (j8 (j8 (j8 (su rfl) rfl) rfl) rfl) rfl) rfl) rfl) rfl
def jA(y:aq)(u:Value)(v:Value):sm cG cG 17 rV (cR y u) v (cR y v):=A2 (j8 (j8 (j8 (j8 (j8 (j8 (su rfl) rfl) rfl) rfl) rfl) rfl) rfl) rfl
def fx(b:Nat)(x:aq)(i:OI):List OE:=[bx (rH bQ [(1,ay (i.h 0).1 (i.h 0).2 x.kinds.length),(2,ay (i.h 1).1 (i.h 1).2 x.open_.length)]) 168 b x,tip (f6 (rI .i64)) 69 (i.h 0).1 (i.h 0).2 x.kinds,db (rI .i64) 3 (i.h 1).1 (i.h 1).2 x.open_]
def fW(b:Nat)(x:bg)(i:OI):List OE:=[bx (rH dc [(0,ay (i.h 0).1 (i.h 0).2 x.bytes.length)]) 60 b x,tip (rI .u8) 5 (i.h 0).1 (i.h 0).2 x.bytes]
def WS(b:Nat)(x:aq)(i:OI):List OE:=[bx (rH cG [(1,ay (i.h 0).1 (i.h 0).2 x.kinds.length),(2,ay (i.h 1).1 (i.h 1).2 x.open_.length)]) 168 b (cR x (ay (i.h 2).1 (i.h 2).2 x.result.length)),tip (f6 (rI .i64)) 69 (i.h 0).1 (i.h 0).2 x.kinds,db (rI .i64) 3 (i.h 1).1 (i.h 1).2 x.open_,db (rI .i64) 3 (i.h 2).1 (i.h 2).2 x.result]
def Z4{S:SH}{cs:List Value}{y:be}{v:Value}(h:s7.rc S cs (ym y v)):(rH aw [(0,v)]).rc S cs y:=by
 obtain⟨a0,b0,e0,h0,a1,b1,e1,X,K⟩:=h
 refine⟨⟨a0,b0,e0,⟨v,h0.1,h0.2⟩,a1,b1,e1,X,K⟩,fun p hp=>?_⟩
 simp at hp
 subst hp
 rw [e0,h0.1]
 rfl
def Z3{S:SH}{cs:List Value}{y:ea}{v:Value}(h:uw.rc S cs (Am y v)):(rH dM [(0,v)]).rc S cs y:=by
 obtain⟨a0,b0,e0,h0,a1,b1,e1,X,K⟩:=h
 refine⟨⟨a0,b0,e0,⟨v,h0.1,h0.2⟩,a1,b1,e1,X,K⟩,fun p hp=>?_⟩
 simp at hp
 subst hp
 rw [e0,h0.1]
 rfl

end Go.Proofs.YtdohlidddcgfjaaGreat

