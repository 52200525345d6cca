/- bT of this claim: D. -/
import Derived.Test.YtdohlidddcgfjaaGreatFdV3
import Derived.Test.YtdohlidddcgfjaaGreatFdV4
set_option linter.all false
namespace Go.Proofs.YtdohlidddcgfjaaGreat
open Go

structure am where
 Kind:Int
 N:Int
 U:Int
 S:OQ
 deriving DecidableEq,Inhabited
def be:Rp am:=mZ (cq (rI .i64) (cq (rI .i64) (cq (rI .u64) rS))) (fun x=>(x.Kind,x.N,x.U,x.S))
def ox:lC be 0 (rI .i64) (fun x=>x.Kind):=(dc cd)
def vO:eV be 0 (rI .i64) (fun x y=>{x with Kind:=y}):=bH cA (fun _ _=>rfl)
def rp:lC be 1 (rI .i64) (fun x=>x.N):=(dc (aD cd rfl))
def tf:eV be 1 (rI .i64) (fun x y=>{x with N:=y}):=bH (ay cA rfl) (fun _ _=>rfl)
def EQ:lC be 2 (rI .u64) (fun x=>x.U):=(dc (aD (aD cd rfl) rfl))
def D7:eV be 2 (rI .u64) (fun x y=>{x with U:=y}):=bH (ay (ay cA rfl) rfl) (fun _ _=>rfl)
def ro:lC be 3 rS (fun x=>x.S):=(aD (aD (aD cd rfl) rfl) rfl)
def D6:eV be 3 rS (fun x y=>{x with S:=y}):=bH (ay (ay (ay ax rfl) rfl) rfl) (fun _ _=>rfl)
def mu: ∀S,be.rc S [.int .i64 0,.int .i64 0,.int .u64 0,.string ⟨#[]⟩] ((⟨(0:Int),(0:Int),(0:Int),[]⟩:am)):=fun _=>⟨[.int .i64 0],[.int .i64 0,.int .u64 0,.string ⟨#[]⟩],rfl,rfl,⟨[.int .i64 0],[.int .u64 0,.string ⟨#[]⟩],rfl,rfl,⟨[.int .u64 0],[.string ⟨#[]⟩],rfl,rfl,rfl⟩⟩⟩
structure bI where
 Rows:(List (List am))
 End:Bool
 Count:Int
 deriving DecidableEq,Inhabited
def kj:Rp bI:=mZ (cq (fW (fW be)) (cq rB (rI .u64))) (fun x=>(x.Rows,x.End,x.Count))
def oE:lC kj 0 (fW (fW be)) (fun x=>x.Rows):=(dc cd)
def LS:eV kj 0 (fW (fW be)) (fun x y=>{x with Rows:=y}):=bH cA (fun _ _=>rfl)
def oD:lC kj 1 rB (fun x=>x.End):=(dc (aD cd rfl))
def LR:eV kj 1 rB (fun x y=>{x with End:=y}):=bH (ay cA rfl) (fun _ _=>rfl)
def pW:lC kj 2 (rI .u64) (fun x=>x.Count):=(aD (aD cd rfl) rfl)
def LQ:eV kj 2 (rI .u64) (fun x y=>{x with Count:=y}):=bH (ay (ay ax rfl) rfl) (fun _ _=>rfl)
def Jk: ∀S,kj.rc S [.slice none 0 0,.bool false,.int .u64 0] ((⟨[],false,(0:Int)⟩:bI)):=fun _=>⟨[.slice none 0 0],[.bool false,.int .u64 0],rfl,⟨none,0,rfl,eg _,pq _,.inl rfl⟩,⟨[.bool false],[.int .u64 0],rfl,rfl,rfl⟩⟩
structure aI where
 Kind:Int
 Session:Int
 Seq:Int
 Limit:Int
 Batch:bI
 deriving DecidableEq,Inhabited
def cx:Rp aI:=mZ (cq (rI .i64) (cq (rI .u32) (cq (rI .u64) (cq (rI .u64) kj)))) (fun x=>(x.Kind,x.Session,x.Seq,x.Limit,x.Batch))
def rZ:lC cx 0 (rI .i64) (fun x=>x.Kind):=(dc cd)
def CC:eV cx 0 (rI .i64) (fun x y=>{x with Kind:=y}):=bH cA (fun _ _=>rfl)
def ux:lC cx 1 (rI .u32) (fun x=>x.Session):=(dc (aD cd rfl))
def CB:eV cx 1 (rI .u32) (fun x y=>{x with Session:=y}):=bH (ay cA rfl) (fun _ _=>rfl)
def oy:lC cx 2 (rI .u64) (fun x=>x.Seq):=(dc (aD (aD cd rfl) rfl))
def CA:eV cx 2 (rI .u64) (fun x y=>{x with Seq:=y}):=bH (ay (ay cA rfl) rfl) (fun _ _=>rfl)
def qj:lC cx 3 (rI .u64) (fun x=>x.Limit):=(dc (aD (aD (aD cd rfl) rfl) rfl))
def JI:eV cx 3 (rI .u64) (fun x y=>{x with Limit:=y}):=bH (ay (ay (ay cA rfl) rfl) rfl) (fun _ _=>rfl)
def ft:lC cx 4 kj (fun x=>x.Batch):=(aD (aD (aD (aD cd rfl) rfl) rfl) rfl)
def xm:eV cx 4 kj (fun x y=>{x with Batch:=y}):=bH (ay (ay (ay (ay ax rfl) rfl) rfl) rfl) (fun _ _=>rfl)
def pZ: ∀S,cx.rc S [.int .i64 0,.int .u32 0,.int .u64 0,.int .u64 0,.slice none 0 0,.bool false,.int .u64 0] ((⟨(0:Int),(0:Int),(0:Int),(0:Int),(⟨[],false,(0:Int)⟩:bI)⟩:aI)):=fun _=>⟨[.int .i64 0],[.int .u32 0,.int .u64 0,.int .u64 0,.slice none 0 0,.bool false,.int .u64 0],rfl,rfl,⟨[.int .u32 0],[.int .u64 0,.int .u64 0,.slice none 0 0,.bool false,.int .u64 0],rfl,rfl,⟨[.int .u64 0],[.int .u64 0,.slice none 0 0,.bool false,.int .u64 0],rfl,rfl,⟨[.int .u64 0],[.slice none 0 0,.bool false,.int .u64 0],rfl,rfl,Jk _⟩⟩⟩⟩
structure kg where
 Col:Int
 Desc:Bool
 deriving DecidableEq,Inhabited
def iA:Rp kg:=mZ (cq (rI .i64) rB) (fun x=>(x.Col,x.Desc))
def A8:lC iA 0 (rI .i64) (fun x=>x.Col):=(dc cd)
def Rn:eV iA 0 (rI .i64) (fun x y=>{x with Col:=y}):=bH cA (fun _ _=>rfl)
def KC:lC iA 1 rB (fun x=>x.Desc):=(aD cd rfl)
def Rm:eV iA 1 rB (fun x y=>{x with Desc:=y}):=bH (ay ax rfl) (fun _ _=>rfl)
def Lp: ∀S,iA.rc S [.int .i64 0,.bool false] ((⟨(0:Int),false⟩:kg)):=fun _=>⟨[.int .i64 0],[.bool false],rfl,rfl,rfl⟩
structure ap where
 Tag:Int
 L:Int
 R:Int
 Col:Int
 Value:am
 deriving DecidableEq,Inhabited
def bD:Rp ap:=mZ (cq (rI .i64) (cq (rI .i64) (cq (rI .i64) (cq (rI .i64) be)))) (fun x=>(x.Tag,x.L,x.R,x.Col,x.Value))
def gu:lC bD 0 (rI .i64) (fun x=>x.Tag):=(dc cd)
def LP:eV bD 0 (rI .i64) (fun x y=>{x with Tag:=y}):=bH cA (fun _ _=>rfl)
def ES:lC bD 1 (rI .i64) (fun x=>x.L):=(dc (aD cd rfl))
def zC:eV bD 1 (rI .i64) (fun x y=>{x with L:=y}):=bH (ay cA rfl) (fun _ _=>rfl)
def ER:lC bD 2 (rI .i64) (fun x=>x.R):=(dc (aD (aD cd rfl) rfl))
def zB:eV bD 2 (rI .i64) (fun x y=>{x with R:=y}):=bH (ay (ay cA rfl) rfl) (fun _ _=>rfl)
def oC:lC bD 3 (rI .i64) (fun x=>x.Col):=(dc (aD (aD (aD cd rfl) rfl) rfl))
def LO:eV bD 3 (rI .i64) (fun x y=>{x with Col:=y}):=bH (ay (ay (ay cA rfl) rfl) rfl) (fun _ _=>rfl)
def pV:lC bD 4 be (fun x=>x.Value):=(aD (aD (aD (aD cd rfl) rfl) rfl) rfl)
def LN:eV bD 4 be (fun x y=>{x with Value:=y}):=bH (ay (ay (ay (ay ax rfl) rfl) rfl) rfl) (fun _ _=>rfl)
def rO: ∀S,bD.rc S [.int .i64 0,.int .i64 0,.int .i64 0,.int .i64 0,.int .i64 0,.int .i64 0,.int .u64 0,.string ⟨#[]⟩] ((⟨(0:Int),(0:Int),(0:Int),(0:Int),(⟨(0:Int),(0:Int),(0:Int),[]⟩:am)⟩:ap)):=fun _=>⟨[.int .i64 0],[.int .i64 0,.int .i64 0,.int .i64 0,.int .i64 0,.int .i64 0,.int .u64 0,.string ⟨#[]⟩],rfl,rfl,⟨[.int .i64 0],[.int .i64 0,.int .i64 0,.int .i64 0,.int .i64 0,.int .u64 0,.string ⟨#[]⟩],rfl,rfl,⟨[.int .i64 0],[.int .i64 0,.int .i64 0,.int .i64 0,.int .u64 0,.string ⟨#[]⟩],rfl,rfl,⟨[.int .i64 0],[.int .i64 0,.int .i64 0,.int .u64 0,.string ⟨#[]⟩],rfl,rfl,mu _⟩⟩⟩⟩
structure aP where
 Nodes:(List ap)
 deriving DecidableEq,Inhabited
def cU:Rp aP:=mZ (fW bD) (fun x=>(x.Nodes))
def kS:lC cU 0 (fW bD) (fun x=>x.Nodes):=cd
def Pu:eV cU 0 (fW bD) (fun x y=>{x with Nodes:=y}):=bH ax (fun _ _=>rfl)
def sr: ∀S,cU.rc S [.slice none 0 0] ((⟨[]⟩:aP)):=fun _=>⟨none,0,rfl,eg _,pq _,.inl rfl⟩
structure eS where
 Tag:Int
 Arg:aP
 deriving DecidableEq,Inhabited
def fI:Rp eS:=mZ (cq (rI .i64) cU) (fun x=>(x.Tag,x.Arg))
def mJ:lC fI 0 (rI .i64) (fun x=>x.Tag):=(dc cd)
def Rq:eV fI 0 (rI .i64) (fun x y=>{x with Tag:=y}):=bH cA (fun _ _=>rfl)
def qN:lC fI 1 cU (fun x=>x.Arg):=(aD cd rfl)
def Ro:eV fI 1 cU (fun x y=>{x with Arg:=y}):=bH (ay ax rfl) (fun _ _=>rfl)
def uI: ∀S,fI.rc S [.int .i64 0,.slice none 0 0] ((⟨(0:Int),(⟨[]⟩:aP)⟩:eS)):=fun _=>⟨[.int .i64 0],[.slice none 0 0],rfl,rfl,sr _⟩
structure aa where
 Op:Int
 A:Int
 B:Int
 Table:Int
 Kinds:(List Int)
 Left:Bool
 Cond:aP
 Keys:(List Int)
 Aggs:(List eS)
 Items:(List aP)
 Order:(List kg)
 Limit:Int
 deriving DecidableEq,Inhabited
def bl:Rp aa:=mZ (cq (rI .i64) (cq (rI .i64) (cq (rI .i64) (cq (rI .i64) (cq (fW (rI .i64)) (cq rB (cq cU (cq (fW (rI .i64)) (cq (fW fI) (cq (fW cU) (cq (fW iA) (rI .i64)))))))))))) (fun x=>(x.Op,x.A,x.B,x.Table,x.Kinds,x.Left,x.Cond,x.Keys,x.Aggs,x.Items,x.Order,x.Limit))
def eJ:lC bl 0 (rI .i64) (fun x=>x.Op):=(dc cd)
def LM:eV bl 0 (rI .i64) (fun x y=>{x with Op:=y}):=bH cA (fun _ _=>rfl)
def we:lC bl 1 (rI .i64) (fun x=>x.A):=(dc (aD cd rfl))
def n9:eV bl 1 (rI .i64) (fun x y=>{x with A:=y}):=bH (ay cA rfl) (fun _ _=>rfl)
def zS:lC bl 2 (rI .i64) (fun x=>x.B):=(dc (aD (aD cd rfl) rfl))
def n8:eV bl 2 (rI .i64) (fun x y=>{x with B:=y}):=bH (ay (ay cA rfl) rfl) (fun _ _=>rfl)
def oB:lC bl 3 (rI .i64) (fun x=>x.Table):=(dc (aD (aD (aD cd rfl) rfl) rfl))
def LL:eV bl 3 (rI .i64) (fun x y=>{x with Table:=y}):=bH (ay (ay (ay cA rfl) rfl) rfl) (fun _ _=>rfl)
def jv:lC bl 4 (fW (rI .i64)) (fun x=>x.Kinds):=(dc (aD (aD (aD (aD cd rfl) rfl) rfl) rfl))
def LK:eV bl 4 (fW (rI .i64)) (fun x y=>{x with Kinds:=y}):=bH (ay (ay (ay (ay cA rfl) rfl) rfl) rfl) (fun _ _=>rfl)
def wd:lC bl 5 rB (fun x=>x.Left):=(dc (aD (aD (aD (aD (aD cd rfl) rfl) rfl) rfl) rfl))
def LJ:eV bl 5 rB (fun x y=>{x with Left:=y}):=bH (ay (ay (ay (ay (ay cA rfl) rfl) rfl) rfl) rfl) (fun _ _=>rfl)
def oA:lC bl 6 cU (fun x=>x.Cond):=(dc (aD (aD (aD (aD (aD (aD cd rfl) rfl) rfl) rfl) rfl) rfl))
def Ee:eV bl 6 cU (fun x y=>{x with Cond:=y}):=bH (ay (ay (ay (ay (ay (ay cA rfl) rfl) rfl) rfl) rfl) rfl) (fun _ _=>rfl)
def iQ:lC bl 7 (fW (rI .i64)) (fun x=>x.Keys):=(dc (aD (aD (aD (aD (aD (aD (aD cd rfl) rfl) rfl) rfl) rfl) rfl) rfl))
def LI:eV bl 7 (fW (rI .i64)) (fun x y=>{x with Keys:=y}):=bH (ay (ay (ay (ay (ay (ay (ay cA rfl) rfl) rfl) rfl) rfl) rfl) rfl) (fun _ _=>rfl)
def gr:lC bl 8 (fW fI) (fun x=>x.Aggs):=(dc (aD (aD (aD (aD (aD (aD (aD (aD cd rfl) rfl) rfl) rfl) rfl) rfl) rfl) rfl))
def LH:eV bl 8 (fW fI) (fun x y=>{x with Aggs:=y}):=bH (ay (ay (ay (ay (ay (ay (ay (ay cA rfl) rfl) rfl) rfl) rfl) rfl) rfl) rfl) (fun _ _=>rfl)
def oz:lC bl 9 (fW cU) (fun x=>x.Items):=(dc (aD (aD (aD (aD (aD (aD (aD (aD (aD cd rfl) rfl) rfl) rfl) rfl) rfl) rfl) rfl) rfl))
def LF:eV bl 9 (fW cU) (fun x y=>{x with Items:=y}):=bH (ay (ay (ay (ay (ay (ay (ay (ay (ay cA rfl) rfl) rfl) rfl) rfl) rfl) rfl) rfl) rfl) (fun _ _=>rfl)
def mU:lC bl 10 (fW iA) (fun x=>x.Order):=(dc (aD (aD (aD (aD (aD (aD (aD (aD (aD (aD cd rfl) rfl) rfl) rfl) rfl) rfl) rfl) rfl) rfl) rfl))
def JN:eV bl 10 (fW iA) (fun x y=>{x with Order:=y}):=bH (ay (ay (ay (ay (ay (ay (ay (ay (ay (ay cA rfl) rfl) rfl) rfl) rfl) rfl) rfl) rfl) rfl) rfl) (fun _ _=>rfl)
def qk:lC bl 11 (rI .i64) (fun x=>x.Limit):=(aD (aD (aD (aD (aD (aD (aD (aD (aD (aD (aD cd rfl) rfl) rfl) rfl) rfl) rfl) rfl) rfl) rfl) rfl) rfl)
def JM:eV bl 11 (rI .i64) (fun x y=>{x with Limit:=y}):=bH (ay (ay (ay (ay (ay (ay (ay (ay (ay (ay (ay ax rfl) rfl) rfl) rfl) rfl) rfl) rfl) rfl) rfl) rfl) rfl) (fun _ _=>rfl)
def kV: ∀S,bl.rc S [.int .i64 0,.int .i64 0,.int .i64 0,.int .i64 0,.slice none 0 0,.bool false,.slice none 0 0,.slice none 0 0,.slice none 0 0,.slice none 0 0,.slice none 0 0,.int .i64 0] ((⟨(0:Int),(0:Int),(0:Int),(0:Int),[],false,(⟨[]⟩:aP),[],[],[],[],(0:Int)⟩:aa)):=fun _=>⟨[.int .i64 0],[.int .i64 0,.int .i64 0,.int .i64 0,.slice none 0 0,.bool false,.slice none 0 0,.slice none 0 0,.slice none 0 0,.slice none 0 0,.slice none 0 0,.int .i64 0],rfl,rfl,⟨[.int .i64 0],[.int .i64 0,.int .i64 0,.slice none 0 0,.bool false,.slice none 0 0,.slice none 0 0,.slice none 0 0,.slice none 0 0,.slice none 0 0,.int .i64 0],rfl,rfl,⟨[.int .i64 0],[.int .i64 0,.slice none 0 0,.bool false,.slice none 0 0,.slice none 0 0,.slice none 0 0,.slice none 0 0,.slice none 0 0,.int .i64 0],rfl,rfl,⟨[.int .i64 0],[.slice none 0 0,.bool false,.slice none 0 0,.slice none 0 0,.slice none 0 0,.slice none 0 0,.slice none 0 0,.int .i64 0],rfl,rfl,⟨[.slice none 0 0],[.bool false,.slice none 0 0,.slice none 0 0,.slice none 0 0,.slice none 0 0,.slice none 0 0,.int .i64 0],rfl,⟨none,0,rfl,eg _,pq _,.inl rfl⟩,⟨[.bool false],[.slice none 0 0,.slice none 0 0,.slice none 0 0,.slice none 0 0,.slice none 0 0,.int .i64 0],rfl,rfl,⟨[.slice none 0 0],[.slice none 0 0,.slice none 0 0,.slice none 0 0,.slice none 0 0,.int .i64 0],rfl,sr _,⟨[.slice none 0 0],[.slice none 0 0,.slice none 0 0,.slice none 0 0,.int .i64 0],rfl,⟨none,0,rfl,eg _,pq _,.inl rfl⟩,⟨[.slice none 0 0],[.slice none 0 0,.slice none 0 0,.int .i64 0],rfl,⟨none,0,rfl,eg _,pq _,.inl rfl⟩,⟨[.slice none 0 0],[.slice none 0 0,.int .i64 0],rfl,⟨none,0,rfl,eg _,pq _,.inl rfl⟩,⟨[.slice none 0 0],[.int .i64 0],rfl,⟨none,0,rfl,eg _,pq _,.inl rfl⟩,rfl⟩⟩⟩⟩⟩⟩⟩⟩⟩⟩⟩
structure di where
 Nodes:(List aa)
 At:Int
 Way:Int
 Cols:(List Int)
 deriving DecidableEq,Inhabited
def cG:Rp di:=mZ (cq (fW bl) (cq (rI .i64) (cq (rI .i64) (fW (rI .i64))))) (fun x=>(x.Nodes,x.At,x.Way,x.Cols))
def sW:lC cG 0 (fW bl) (fun x=>x.Nodes):=(dc cd)
def Pt:eV cG 0 (fW bl) (fun x y=>{x with Nodes:=y}):=bH cA (fun _ _=>rfl)
def vr:lC cG 1 (rI .i64) (fun x=>x.At):=(dc (aD cd rfl))
def GA:eV cG 1 (rI .i64) (fun x y=>{x with At:=y}):=bH (ay cA rfl) (fun _ _=>rfl)
def vq:lC cG 2 (rI .i64) (fun x=>x.Way):=(dc (aD (aD cd rfl) rfl))
def Gz:eV cG 2 (rI .i64) (fun x y=>{x with Way:=y}):=bH (ay (ay cA rfl) rfl) (fun _ _=>rfl)
def sV:lC cG 3 (fW (rI .i64)) (fun x=>x.Cols):=(aD (aD (aD cd rfl) rfl) rfl)
def Gy:eV cG 3 (fW (rI .i64)) (fun x y=>{x with Cols:=y}):=bH (ay (ay (ay ax rfl) rfl) rfl) (fun _ _=>rfl)
def pF: ∀S,cG.rc S [.slice none 0 0,.int .i64 0,.int .i64 0,.slice none 0 0] ((⟨[],(0:Int),(0:Int),[]⟩:di)):=fun _=>⟨[.slice none 0 0],[.int .i64 0,.int .i64 0,.slice none 0 0],rfl,⟨none,0,rfl,eg _,pq _,.inl rfl⟩,⟨[.int .i64 0],[.int .i64 0,.slice none 0 0],rfl,rfl,⟨[.int .i64 0],[.slice none 0 0],rfl,rfl,⟨none,0,rfl,eg _,pq _,.inl rfl⟩⟩⟩⟩
structure cT where
 Frags:(List di)
 deriving DecidableEq,Inhabited
def mh:Rp cT:=mZ (fW cG) (fun x=>(x.Frags))
def pb:lC mh 0 (fW cG) (fun x=>x.Frags):=cd
def Ps:eV mh 0 (fW cG) (fun x y=>{x with Frags:=y}):=bH ax (fun _ _=>rfl)
def Db: ∀S,mh.rc S [.slice none 0 0] ((⟨[]⟩:cT)):=fun _=>⟨none,0,rfl,eg _,pq _,.inl rfl⟩
structure bR where
 Kind:Int
 From:Int
 To:Int
 Epoch:Int
 Frag:Int
 Sites:Int
 Plan:cT
 Packet:aI
 Err:Int
 deriving DecidableEq,Inhabited
def fz:Rp bR:=mZ (cq (rI .i64) (cq (rI .i64) (cq (rI .i64) (cq (rI .i64) (cq (rI .i64) (cq (rI .i64) (cq mh (cq cx (rI .i64))))))))) (fun x=>(x.Kind,x.From,x.To,x.Epoch,x.Frag,x.Sites,x.Plan,x.Packet,x.Err))
def tB:lC fz 0 (rI .i64) (fun x=>x.Kind):=(dc cd)
def Ed:eV fz 0 (rI .i64) (fun x y=>{x with Kind:=y}):=bH cA (fun _ _=>rfl)
def Ba:lC fz 1 (rI .i64) (fun x=>x.From):=(dc (aD cd rfl))
def Ec:eV fz 1 (rI .i64) (fun x y=>{x with From:=y}):=bH (ay cA rfl) (fun _ _=>rfl)
def A9:lC fz 2 (rI .i64) (fun x=>x.To):=(dc (aD (aD cd rfl) rfl))
def JL:eV fz 2 (rI .i64) (fun x y=>{x with To:=y}):=bH (ay (ay cA rfl) rfl) (fun _ _=>rfl)
def xS:lC fz 3 (rI .i64) (fun x=>x.Epoch):=(dc (aD (aD (aD cd rfl) rfl) rfl))
def Eb:eV fz 3 (rI .i64) (fun x y=>{x with Epoch:=y}):=bH (ay (ay (ay cA rfl) rfl) rfl) (fun _ _=>rfl)
def xR:lC fz 4 (rI .i64) (fun x=>x.Frag):=(dc (aD (aD (aD (aD cd rfl) rfl) rfl) rfl))
def Ea:eV fz 4 (rI .i64) (fun x y=>{x with Frag:=y}):=bH (ay (ay (ay (ay cA rfl) rfl) rfl) rfl) (fun _ _=>rfl)
def xQ:lC fz 5 (rI .i64) (fun x=>x.Sites):=(dc (aD (aD (aD (aD (aD cd rfl) rfl) rfl) rfl) rfl))
def JK:eV fz 5 (rI .i64) (fun x y=>{x with Sites:=y}):=bH (ay (ay (ay (ay (ay cA rfl) rfl) rfl) rfl) rfl) (fun _ _=>rfl)
def xP:lC fz 6 mh (fun x=>x.Plan):=(dc (aD (aD (aD (aD (aD (aD cd rfl) rfl) rfl) rfl) rfl) rfl))
def JJ:eV fz 6 mh (fun x y=>{x with Plan:=y}):=bH (ay (ay (ay (ay (ay (ay cA rfl) rfl) rfl) rfl) rfl) rfl) (fun _ _=>rfl)
def vp:lC fz 7 cx (fun x=>x.Packet):=(dc (aD (aD (aD (aD (aD (aD (aD cd rfl) rfl) rfl) rfl) rfl) rfl) rfl))
def D9:eV fz 7 cx (fun x y=>{x with Packet:=y}):=bH (ay (ay (ay (ay (ay (ay (ay cA rfl) rfl) rfl) rfl) rfl) rfl) rfl) (fun _ _=>rfl)
def xO:lC fz 14 (rI .i64) (fun x=>x.Err):=(aD (aD (aD (aD (aD (aD (aD (aD cd rfl) rfl) rfl) rfl) rfl) rfl) rfl) rfl)
def D8:eV fz 14 (rI .i64) (fun x y=>{x with Err:=y}):=bH (ay (ay (ay (ay (ay (ay (ay (ay ax rfl) rfl) rfl) rfl) rfl) rfl) rfl) rfl) (fun _ _=>rfl)
def qt: ∀S,fz.rc S [.int .i64 0,.int .i64 0,.int .i64 0,.int .i64 0,.int .i64 0,.int .i64 0,.slice none 0 0,.int .i64 0,.int .u32 0,.int .u64 0,.int .u64 0,.slice none 0 0,.bool false,.int .u64 0,.int .i64 0] ((⟨(0:Int),(0:Int),(0:Int),(0:Int),(0:Int),(0:Int),(⟨[]⟩:cT),(⟨(0:Int),(0:Int),(0:Int),(0:Int),(⟨[],false,(0:Int)⟩:bI)⟩:aI),(0:Int)⟩:bR)):=fun _=>⟨[.int .i64 0],[.int .i64 0,.int .i64 0,.int .i64 0,.int .i64 0,.int .i64 0,.slice none 0 0,.int .i64 0,.int .u32 0,.int .u64 0,.int .u64 0,.slice none 0 0,.bool false,.int .u64 0,.int .i64 0],rfl,rfl,⟨[.int .i64 0],[.int .i64 0,.int .i64 0,.int .i64 0,.int .i64 0,.slice none 0 0,.int .i64 0,.int .u32 0,.int .u64 0,.int .u64 0,.slice none 0 0,.bool false,.int .u64 0,.int .i64 0],rfl,rfl,⟨[.int .i64 0],[.int .i64 0,.int .i64 0,.int .i64 0,.slice none 0 0,.int .i64 0,.int .u32 0,.int .u64 0,.int .u64 0,.slice none 0 0,.bool false,.int .u64 0,.int .i64 0],rfl,rfl,⟨[.int .i64 0],[.int .i64 0,.int .i64 0,.slice none 0 0,.int .i64 0,.int .u32 0,.int .u64 0,.int .u64 0,.slice none 0 0,.bool false,.int .u64 0,.int .i64 0],rfl,rfl,⟨[.int .i64 0],[.int .i64 0,.slice none 0 0,.int .i64 0,.int .u32 0,.int .u64 0,.int .u64 0,.slice none 0 0,.bool false,.int .u64 0,.int .i64 0],rfl,rfl,⟨[.int .i64 0],[.slice none 0 0,.int .i64 0,.int .u32 0,.int .u64 0,.int .u64 0,.slice none 0 0,.bool false,.int .u64 0,.int .i64 0],rfl,rfl,⟨[.slice none 0 0],[.int .i64 0,.int .u32 0,.int .u64 0,.int .u64 0,.slice none 0 0,.bool false,.int .u64 0,.int .i64 0],rfl,Db _,⟨[.int .i64 0,.int .u32 0,.int .u64 0,.int .u64 0,.slice none 0 0,.bool false,.int .u64 0],[.int .i64 0],rfl,pZ _,rfl⟩⟩⟩⟩⟩⟩⟩⟩
structure al where
 nodes:(List aa)
 kinds:(List (List Int))
 open_:(List Int)
 n:aa
 a_:(List Int)
 b:(List Int)
 result:(List Int)
 deriving DecidableEq,Inhabited
def bu:Rp al:=mZ (cq (fW bl) (cq (fW (fW (rI .i64))) (cq (PD:Rp (List Int)) (cq bl (cq (fW (rI .i64)) (cq (fW (rI .i64)) (fW (rI .i64)))))))) (fun x=>(x.nodes,x.kinds,x.open_,x.n,x.a_,x.b,x.result))
def B5:lC bu 0 (fW bl) (fun x=>x.nodes):=(dc cd)
def Pq:eV bu 0 (fW bl) (fun x y=>{x with nodes:=y}):=bH cA (fun _ _=>rfl)
def Pp:eV bu 1 (fW (fW (rI .i64))) (fun x y=>{x with kinds:=y}):=bH (ay cA rfl) (fun _ _=>rfl)
def Po:eV bu 2 (PD:Rp (List Int)) (fun x y=>{x with open_:=y}):=bH (ay (ay cA rfl) rfl) (fun _ _=>rfl)
def fO:lC bu 3 bl (fun x=>x.n):=(dc (aD (aD (aD cd rfl) rfl) rfl))
def Pn:eV bu 3 bl (fun x y=>{x with n:=y}):=bH (ay (ay (ay cA rfl) rfl) rfl) (fun _ _=>rfl)
def o9:lC bu 15 (fW (rI .i64)) (fun x=>x.a_):=(dc (aD (aD (aD (aD cd rfl) rfl) rfl) rfl))
def Gx:eV bu 15 (fW (rI .i64)) (fun x y=>{x with a_:=y}):=bH (ay (ay (ay (ay cA rfl) rfl) rfl) rfl) (fun _ _=>rfl)
def GW:lC bu 16 (fW (rI .i64)) (fun x=>x.b):=(dc (aD (aD (aD (aD (aD cd rfl) rfl) rfl) rfl) rfl))
def Gw:eV bu 16 (fW (rI .i64)) (fun x y=>{x with b:=y}):=bH (ay (ay (ay (ay (ay cA rfl) rfl) rfl) rfl) rfl) (fun _ _=>rfl)
def B4:lC bu 17 (fW (rI .i64)) (fun x=>x.result):=(aD (aD (aD (aD (aD (aD cd rfl) rfl) rfl) rfl) rfl) rfl)
def sR:eV bu 17 (fW (rI .i64)) (fun x y=>{x with result:=y}):=bH (ay (ay (ay (ay (ay (ay ax rfl) rfl) rfl) rfl) rfl) rfl) (fun _ _=>rfl)
def TH: ∀S,bu.rc S [.slice none 0 0,.slice none 0 0,.slice none 0 0,.int .i64 0,.int .i64 0,.int .i64 0,.int .i64 0,.slice none 0 0,.bool false,.slice none 0 0,.slice none 0 0,.slice none 0 0,.slice none 0 0,.slice none 0 0,.int .i64 0,.slice none 0 0,.slice none 0 0,.slice none 0 0] ((⟨[],[],[],(⟨(0:Int),(0:Int),(0:Int),(0:Int),[],false,(⟨[]⟩:aP),[],[],[],[],(0:Int)⟩:aa),[],[],[]⟩:al)):=fun _=>⟨[.slice none 0 0],[.slice none 0 0,.slice none 0 0,.int .i64 0,.int .i64 0,.int .i64 0,.int .i64 0,.slice none 0 0,.bool false,.slice none 0 0,.slice none 0 0,.slice none 0 0,.slice none 0 0,.slice none 0 0,.int .i64 0,.slice none 0 0,.slice none 0 0,.slice none 0 0],rfl,⟨none,0,rfl,eg _,pq _,.inl rfl⟩,⟨[.slice none 0 0],[.slice none 0 0,.int .i64 0,.int .i64 0,.int .i64 0,.int .i64 0,.slice none 0 0,.bool false,.slice none 0 0,.slice none 0 0,.slice none 0 0,.slice none 0 0,.slice none 0 0,.int .i64 0,.slice none 0 0,.slice none 0 0,.slice none 0 0],rfl,⟨none,0,rfl,eg _,pq _,.inl rfl⟩,⟨[.slice none 0 0],[.int .i64 0,.int .i64 0,.int .i64 0,.int .i64 0,.slice none 0 0,.bool false,.slice none 0 0,.slice none 0 0,.slice none 0 0,.slice none 0 0,.slice none 0 0,.int .i64 0,.slice none 0 0,.slice none 0 0,.slice none 0 0],rfl,⟨_,rfl,rfl⟩,⟨[.int .i64 0,.int .i64 0,.int .i64 0,.int .i64 0,.slice none 0 0,.bool false,.slice none 0 0,.slice none 0 0,.slice none 0 0,.slice none 0 0,.slice none 0 0,.int .i64 0],[.slice none 0 0,.slice none 0 0,.slice none 0 0],rfl,kV _,⟨[.slice none 0 0],[.slice none 0 0,.slice none 0 0],rfl,⟨none,0,rfl,eg _,pq _,.inl rfl⟩,⟨[.slice none 0 0],[.slice none 0 0],rfl,⟨none,0,rfl,eg _,pq _,.inl rfl⟩,⟨none,0,rfl,eg _,pq _,.inl rfl⟩⟩⟩⟩⟩⟩⟩
structure aU where
 bytes:(List Int)
 deriving DecidableEq,Inhabited
def cV:Rp aU:=mZ (fW (rI .u8)) (fun x=>(x.bytes))
def mS:eV cV 0 (fW (rI .u8)) (fun x y=>{x with bytes:=y}):=bH ax (fun _ _=>rfl)
def O0: ∀S,cV.rc S [.slice none 0 0] ((⟨[]⟩:aU)):=fun _=>⟨none,0,rfl,eg _,pq _,.inl rfl⟩
structure ie where
 Nodes:(List aa)
 deriving DecidableEq,Inhabited
structure lZ where
 at_:Int
 why:Int
 deriving DecidableEq,Inhabited
def qy:Rp lZ:=mZ (cq (rI .i64) (rI .i64)) (fun x=>(x.at_,x.why))
def tA:lC qy 0 (rI .i64) (fun x=>x.at_):=(dc cd)
def D5:eV qy 0 (rI .i64) (fun x y=>{x with at_:=y}):=bH cA (fun _ _=>rfl)
def zR:lC qy 1 (rI .i64) (fun x=>x.why):=(aD cd rfl)
def vN:eV qy 1 (rI .i64) (fun x y=>{x with why:=y}):=bH (ay ax rfl) (fun _ _=>rfl)
def QP: ∀S,qy.rc S [.int .i64 0,.int .i64 0] ((⟨(0:Int),(0:Int)⟩:lZ)):=fun _=>⟨[.int .i64 0],[.int .i64 0],rfl,rfl,rfl⟩
structure af where
 place:lZ
 own:(List Int)
 deriving DecidableEq,Inhabited
def im:Rp af:=mZ (cq qy (fW (rI .u8))) (fun x=>(x.place,x.own))
def gO:lC im 0 qy (fun x=>x.place):=(dc cd)
def p7:eV im 0 qy (fun x y=>{x with place:=y}):=bH cA (fun _ _=>rfl)
def xN:lC im 2 (fW (rI .u8)) (fun x=>x.own):=(aD cd rfl)
structure aK where
 Reader:af
 all:(List Int)
 bad:Bool
 deriving DecidableEq,Inhabited
def aj:Rp aK:=mZ (cq (PD:Rp af) (cq (fW (rI .u8)) rB)) (fun x=>(x.Reader,x.all,x.bad))
def uw:lC aj 1 (fW (rI .u8)) (fun x=>x.all):=(dc (aD cd rfl))
def uv:lC aj 2 rB (fun x=>x.bad):=(aD (aD cd rfl) rfl)
def uf:eV aj 2 rB (fun x y=>{x with bad:=y}):=bH (ay (ay ax rfl) rfl) (fun _ _=>rfl)
structure cB where
 Reader:af
 all:Int
 bad:Bool
 deriving DecidableEq,Inhabited
def bJ:Rp cB:=mZ (cq (PD:Rp af) (cq (rI .i64) rB)) (fun x=>(x.Reader,x.all,x.bad))
def tz:lC bJ 1 (rI .i64) (fun x=>x.all):=(dc (aD cd rfl))
def wb:lC bJ 2 rB (fun x=>x.bad):=(aD (aD cd rfl) rfl)
def D4:eV bJ 2 rB (fun x y=>{x with bad:=y}):=bH (ay (ay ax rfl) rfl) (fun _ _=>rfl)
structure ab7 where
 Bytes:(List Int)
 At:Int
 Bad:Bool
 deriving DecidableEq,Inhabited
structure ab5 where
 Nodes:Value
 At:Int
 Way:Int
 Cols:(List Int)
structure ab6 where
 Nodes:Value
structure WB where
 Op:Int
 A:Int
 B:Int
 Table:Int
 Kinds:(List Int)
 Left:Bool
 Cond:aP
 Keys:(List Int)
 Aggs:Value
 Items:(List aP)
 Order:Value
 Limit:Int
structure ab1 where
 Op:Int
 A:Int
 B:Int
 Table:Int
 Kinds:(List Int)
 Left:Bool
 Cond:aP
 Keys:(List Int)
 Aggs:(List eS)
 Items:Value
 Order:(List kg)
 Limit:Int
structure ab0 where
 Nodes:Value
structure Hj where
 Reader:Value
 all:(List Int)
 bad:Bool
def rQ:Rp Hj:=mZ (cq rV (cq (fW (rI .u8)) rB)) (fun x=>(x.Reader,x.all,x.bad))
def FG:eV rQ 0 rV (fun x y=>{x with Reader:=y}):=bH cA (fun _ _=>rfl)
def FF:eV rQ 1 (fW (rI .u8)) (fun x y=>{x with all:=y}):=bH (ay cA rfl) (fun _ _=>rfl)
def xH(y:aK)(v0:Value):Hj:=⟨v0,y.all,y.bad⟩
def Ji: ∀S,rQ.rc S [.pointer none,.slice none 0 0,.bool false] (xH ((⟨(⟨(⟨(0:Int),(0:Int)⟩:lZ),[]⟩:af),[],false⟩:aK)) (.pointer none)):=fun _=>⟨[.pointer none],[.slice none 0 0,.bool false],rfl,⟨rfl,rfl⟩,⟨[.slice none 0 0],[.bool false],rfl,⟨none,0,rfl,eg _,pq _,.inl rfl⟩,rfl⟩⟩
structure OT where
 nodes:(List aa)
 kinds:(List (List Int))
 open_:(List Int)
 n:aa
 a_:(List Int)
 b:(List Int)
 result:Value
def co:Rp OT:=mZ (cq (fW bl) (cq (fW (fW (rI .i64))) (cq (PD:Rp (List Int)) (cq bl (cq (fW (rI .i64)) (cq (fW (rI .i64)) rV)))))) (fun x=>(x.nodes,x.kinds,x.open_,x.n,x.a_,x.b,x.result))
def xM:lC co 3 bl (fun x=>x.n):=(dc (aD (aD (aD cd rfl) rfl) rfl))
def kP:lC co 15 (fW (rI .i64)) (fun x=>x.a_):=(dc (aD (aD (aD (aD cd rfl) rfl) rfl) rfl))
def KB:lC co 16 (fW (rI .i64)) (fun x=>x.b):=(dc (aD (aD (aD (aD (aD cd rfl) rfl) rfl) rfl) rfl))
def lO:lC co 17 rV (fun x=>x.result):=(aD (aD (aD (aD (aD (aD cd rfl) rfl) rfl) rfl) rfl) rfl)
def cD(y:al)(v6:Value):OT:=⟨y.nodes,y.kinds,y.open_,y.n,y.a_,y.b,v6⟩
structure Hk where
 place:lZ
 own:Value
def p9:Rp Hk:=mZ (cq qy rV) (fun x=>(x.place,x.own))
def FX:lC p9 2 rV (fun x=>x.own):=(aD cd rfl)
def FH:eV p9 2 rV (fun x y=>{x with own:=y}):=bH (ay ax rfl) (fun _ _=>rfl)
def um(y:af)(v1:Value):Hk:=⟨y.place,v1⟩
def Jj: ∀S,p9.rc S [.int .i64 0,.int .i64 0,.slice none 0 0] (um ((⟨(⟨(0:Int),(0:Int)⟩:lZ),[]⟩:af)) (au none 0 0)):=fun _=>⟨[.int .i64 0,.int .i64 0],[.slice none 0 0],rfl,QP _,⟨rfl,rfl⟩⟩
structure K5 where
 Reader:Value
 all:Int
 bad:Bool
def tg:Rp K5:=mZ (cq rV (cq (rI .i64) rB)) (fun x=>(x.Reader,x.all,x.bad))
def HT:eV tg 0 rV (fun x y=>{x with Reader:=y}):=bH cA (fun _ _=>rfl)
def HS:eV tg 1 (rI .i64) (fun x y=>{x with all:=y}):=bH (ay cA rfl) (fun _ _=>rfl)
def zL(y:cB)(v0:Value):K5:=⟨v0,y.all,y.bad⟩
def Lo: ∀S,tg.rc S [.pointer none,.int .i64 0,.bool false] (zL ((⟨(⟨(⟨(0:Int),(0:Int)⟩:lZ),[]⟩:af),(0:Int),false⟩:cB)) (.pointer none)):=fun _=>⟨[.pointer none],[.int .i64 0,.bool false],rfl,⟨rfl,rfl⟩,⟨[.int .i64 0],[.bool false],rfl,rfl,rfl⟩⟩
def iR{S:SH}{cs:List Value}{y:al}{v6:Value}{xs6:(List Int)}(k6:(fW (rI .i64)).rc S [v6] xs6)(h:co.rc S cs (cD y v6)):bu.rc S cs ((⟨y.nodes,y.kinds,y.open_,y.n,y.a_,y.b,xs6⟩:al)):=by
 obtain⟨a0,b0,e0,h0,a1,b1,e1,Y,a2,b2,e2,X,a3,b3,e3,d,a4,b4,e4,h4,a5,b5,e5,h5,h6⟩:=h
 exact⟨a0,b0,e0,h0,a1,b1,e1,Y,a2,b2,e2,X,a3,b3,e3,d,a4,b4,e4,h4,a5,b5,e5,h5,(by rw [h6.1];exact k6)⟩
def Cd{S:SH}{cs:List Value}{y:af}{v1:Value}{xs1:(List Int)}(k1:(fW (rI .u8)).rc S [v1] xs1)(h:p9.rc S cs (um y v1)):im.rc S cs ((⟨y.place,xs1⟩:af)):=by
 obtain⟨a0,b0,e0,h0,Y⟩:=h
 exact⟨a0,b0,e0,h0,(by rw [Y.1];exact k1)⟩
def lG(y:al)(v:Value):vw bu co 17 rV (y) v (cD y v):=ND (pG (pG (pG (pG (pG (pG (BN rfl) rfl) rfl) rfl) rfl) rfl) rfl) rfl
def iU(y:al)(u:Value)(v:Value):vw co co 17 rV (cD y u) v (cD y v):=ND (pG (pG (pG (pG (pG (pG (BN rfl) rfl) rfl) rfl) rfl) rfl) rfl) rfl
def eG(b:Nat)(x:al)(i:OI):List OE:=[Q (rH bu [(1,au (i.h 0).1 (i.h 0).2 x.kinds.length),(2,au (i.h 1).1 (i.h 1).2 x.open_.length)]) 168 b x,tip (fW (rI .i64)) 69 (i.h 0).1 (i.h 0).2 x.kinds,dk (rI .i64) 3 (i.h 1).1 (i.h 1).2 x.open_]
def fg(b:Nat)(x:aU)(i:OI):List OE:=[Q (rH cV [(0,au (i.h 0).1 (i.h 0).2 x.bytes.length)]) 60 b x,tip (rI .u8) 5 (i.h 0).1 (i.h 0).2 x.bytes]
def Xw(b:Nat)(x:al)(i:OI):List OE:=[Q (rH co [(1,au (i.h 0).1 (i.h 0).2 x.kinds.length),(2,au (i.h 1).1 (i.h 1).2 x.open_.length)]) 168 b (cD x (au (i.h 2).1 (i.h 2).2 x.result.length)),tip (fW (rI .i64)) 69 (i.h 0).1 (i.h 0).2 x.kinds,dk (rI .i64) 3 (i.h 1).1 (i.h 1).2 x.open_,dk (rI .i64) 3 (i.h 2).1 (i.h 2).2 x.result]
def aau{S:SH}{cs:List Value}{y:aK}{v:Value}(h:rQ.rc S cs (xH y v)):(rH aj [(0,v)]).rc S cs y:=by
 obtain⟨a0,b0,e0,h0,a1,b1,e1,Y,X⟩:=h
 refine⟨⟨a0,b0,e0,⟨v,h0.1,h0.2⟩,a1,b1,e1,Y,X⟩,fun p hp=>?_⟩
 simp at hp
 subst hp
 rw [e0,h0.1]
 rfl
def aat{S:SH}{cs:List Value}{y:cB}{v:Value}(h:tg.rc S cs (zL y v)):(rH bJ [(0,v)]).rc S cs y:=by
 obtain⟨a0,b0,e0,h0,a1,b1,e1,Y,X⟩:=h
 refine⟨⟨a0,b0,e0,⟨v,h0.1,h0.2⟩,a1,b1,e1,Y,X⟩,fun p hp=>?_⟩
 simp at hp
 subst hp
 rw [e0,h0.1]
 rfl

end Go.Proofs.YtdohlidddcgfjaaGreat

