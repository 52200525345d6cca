/- bS of this claim: D. -/
import Derived.Test.YtdohlidddcgfjaaGreatFfV3
import Derived.Test.YtdohlidddcgfjaaGreatFfV4
set_option linter.all false
namespace Go.Proofs.YtdohlidddcgfjaaGreat
open Go

structure am where
 Kind:Int
 N:Int
 U:Int
 S:Po
 deriving DecidableEq,Inhabited
def bg:Rp am:=na (co (rI .i64) (co (rI .i64) (co (rI .u64) rS))) (fun x=>(x.Kind,x.N,x.U,x.S))
def oK:lH bg 0 (rI .i64) (fun x=>x.Kind):=(dh cd)
def we:fa bg 0 (rI .i64) (fun x y=>{x with Kind:=y}):=bH cC (fun _ _=>rfl)
def rE:lH bg 1 (rI .i64) (fun x=>x.N):=(dh (aD cd rfl))
def tJ:fa bg 1 (rI .i64) (fun x y=>{x with N:=y}):=bH (ay cC rfl) (fun _ _=>rfl)
def Fa:lH bg 2 (rI .u64) (fun x=>x.U):=(dh (aD (aD cd rfl) rfl))
def Eu:fa bg 2 (rI .u64) (fun x y=>{x with U:=y}):=bH (ay (ay cC rfl) rfl) (fun _ _=>rfl)
def rD:lH bg 3 rS (fun x=>x.S):=(aD (aD (aD cd rfl) rfl) rfl)
def Et:fa bg 3 rS (fun x y=>{x with S:=y}):=bH (ay (ay (ay aw rfl) rfl) rfl) (fun _ _=>rfl)
def mB: ∀S,bg.rc S [.int .i64 0,.int .i64 0,.int .u64 0,.string ⟨#[]⟩] ((⟨(0:Int),(0:Int),(0:Int),[]⟩:am)):=fun _=>⟨[.int .i64 0],[.int .i64 0,.int .u64 0,.string ⟨#[]⟩],rfl,rfl,⟨[.int .i64 0],[.int .u64 0,.string ⟨#[]⟩],rfl,rfl,⟨[.int .u64 0],[.string ⟨#[]⟩],rfl,rfl,rfl⟩⟩⟩
structure bI where
 Rows:(List (List am))
 End:Bool
 Count:Int
 deriving DecidableEq,Inhabited
def ky:Rp bI:=na (co (ga (ga bg)) (co rB (rI .u64))) (fun x=>(x.Rows,x.End,x.Count))
def oR:lH ky 0 (ga (ga bg)) (fun x=>x.Rows):=(dh cd)
def Mv:fa ky 0 (ga (ga bg)) (fun x y=>{x with Rows:=y}):=bH cC (fun _ _=>rfl)
def oQ:lH ky 1 rB (fun x=>x.End):=(dh (aD cd rfl))
def Mu:fa ky 1 rB (fun x y=>{x with End:=y}):=bH (ay cC rfl) (fun _ _=>rfl)
def qi:lH ky 2 (rI .u64) (fun x=>x.Count):=(aD (aD cd rfl) rfl)
def Mt:fa ky 2 (rI .u64) (fun x y=>{x with Count:=y}):=bH (ay (ay aw rfl) rfl) (fun _ _=>rfl)
def JH: ∀S,ky.rc S [.slice none 0 0,.bool false,.int .u64 0] ((⟨[],false,(0:Int)⟩:bI)):=fun _=>⟨[.slice none 0 0],[.bool false,.int .u64 0],rfl,⟨none,0,rfl,eo _,pL _,.inl rfl⟩,⟨[.bool false],[.int .u64 0],rfl,rfl,rfl⟩⟩
structure aI where
 Kind:Int
 Session:Int
 Seq:Int
 Limit:Int
 Batch:bI
 deriving DecidableEq,Inhabited
def cz:Rp aI:=na (co (rI .i64) (co (rI .u32) (co (rI .u64) (co (rI .u64) ky)))) (fun x=>(x.Kind,x.Session,x.Seq,x.Limit,x.Batch))
def sq:lH cz 0 (rI .i64) (fun x=>x.Kind):=(dh cd)
def CX:fa cz 0 (rI .i64) (fun x y=>{x with Kind:=y}):=bH cC (fun _ _=>rfl)
def uM:lH cz 1 (rI .u32) (fun x=>x.Session):=(dh (aD cd rfl))
def CW:fa cz 1 (rI .u32) (fun x y=>{x with Session:=y}):=bH (ay cC rfl) (fun _ _=>rfl)
def oL:lH cz 2 (rI .u64) (fun x=>x.Seq):=(dh (aD (aD cd rfl) rfl))
def CV:fa cz 2 (rI .u64) (fun x y=>{x with Seq:=y}):=bH (ay (ay cC rfl) rfl) (fun _ _=>rfl)
def qz:lH cz 3 (rI .u64) (fun x=>x.Limit):=(dh (aD (aD (aD cd rfl) rfl) rfl))
def J5:fa cz 3 (rI .u64) (fun x y=>{x with Limit:=y}):=bH (ay (ay (ay cC rfl) rfl) rfl) (fun _ _=>rfl)
def fz:lH cz 4 ky (fun x=>x.Batch):=(aD (aD (aD (aD cd rfl) rfl) rfl) rfl)
def xD:fa cz 4 ky (fun x y=>{x with Batch:=y}):=bH (ay (ay (ay (ay aw rfl) rfl) rfl) rfl) (fun _ _=>rfl)
def ql: ∀S,cz.rc S [.int .i64 0,.int .u32 0,.int .u64 0,.int .u64 0,.slice none 0 0,.bool false,.int .u64 0] ((⟨(0:Int),(0:Int),(0:Int),(0:Int),(⟨[],false,(0:Int)⟩:bI)⟩:aI)):=fun _=>⟨[.int .i64 0],[.int .u32 0,.int .u64 0,.int .u64 0,.slice none 0 0,.bool false,.int .u64 0],rfl,rfl,⟨[.int .u32 0],[.int .u64 0,.int .u64 0,.slice none 0 0,.bool false,.int .u64 0],rfl,rfl,⟨[.int .u64 0],[.int .u64 0,.slice none 0 0,.bool false,.int .u64 0],rfl,rfl,⟨[.int .u64 0],[.slice none 0 0,.bool false,.int .u64 0],rfl,rfl,JH _⟩⟩⟩⟩
structure ku where
 Col:Int
 Desc:Bool
 deriving DecidableEq,Inhabited
def iE:Rp ku:=na (co (rI .i64) rB) (fun x=>(x.Col,x.Desc))
def Bt:lH iE 0 (rI .i64) (fun x=>x.Col):=(dh cd)
def R1:fa iE 0 (rI .i64) (fun x y=>{x with Col:=y}):=bH cC (fun _ _=>rfl)
def Lh:lH iE 1 rB (fun x=>x.Desc):=(aD cd rfl)
def RZ:fa iE 1 rB (fun x y=>{x with Desc:=y}):=bH (ay aw rfl) (fun _ _=>rfl)
def LX: ∀S,iE.rc S [.int .i64 0,.bool false] ((⟨(0:Int),false⟩:ku)):=fun _=>⟨[.int .i64 0],[.bool false],rfl,rfl,rfl⟩
structure ap where
 Tag:Int
 L:Int
 R:Int
 Col:Int
 Value:am
 deriving DecidableEq,Inhabited
def bC:Rp ap:=na (co (rI .i64) (co (rI .i64) (co (rI .i64) (co (rI .i64) bg)))) (fun x=>(x.Tag,x.L,x.R,x.Col,x.Value))
def gy:lH bC 0 (rI .i64) (fun x=>x.Tag):=(dh cd)
def Ms:fa bC 0 (rI .i64) (fun x y=>{x with Tag:=y}):=bH cC (fun _ _=>rfl)
def Fc:lH bC 1 (rI .i64) (fun x=>x.L):=(dh (aD cd rfl))
def zU:fa bC 1 (rI .i64) (fun x y=>{x with L:=y}):=bH (ay cC rfl) (fun _ _=>rfl)
def Fb:lH bC 2 (rI .i64) (fun x=>x.R):=(dh (aD (aD cd rfl) rfl))
def zT:fa bC 2 (rI .i64) (fun x y=>{x with R:=y}):=bH (ay (ay cC rfl) rfl) (fun _ _=>rfl)
def oP:lH bC 3 (rI .i64) (fun x=>x.Col):=(dh (aD (aD (aD cd rfl) rfl) rfl))
def Mr:fa bC 3 (rI .i64) (fun x y=>{x with Col:=y}):=bH (ay (ay (ay cC rfl) rfl) rfl) (fun _ _=>rfl)
def qh:lH bC 4 bg (fun x=>x.Value):=(aD (aD (aD (aD cd rfl) rfl) rfl) rfl)
def Mq:fa bC 4 bg (fun x y=>{x with Value:=y}):=bH (ay (ay (ay (ay aw rfl) rfl) rfl) rfl) (fun _ _=>rfl)
def se: ∀S,bC.rc S [.int .i64 0,.int .i64 0,.int .i64 0,.int .i64 0,.int .i64 0,.int .i64 0,.int .u64 0,.string ⟨#[]⟩] ((⟨(0:Int),(0:Int),(0:Int),(0:Int),(⟨(0:Int),(0:Int),(0:Int),[]⟩:am)⟩:ap)):=fun _=>⟨[.int .i64 0],[.int .i64 0,.int .i64 0,.int .i64 0,.int .i64 0,.int .i64 0,.int .u64 0,.string ⟨#[]⟩],rfl,rfl,⟨[.int .i64 0],[.int .i64 0,.int .i64 0,.int .i64 0,.int .i64 0,.int .u64 0,.string ⟨#[]⟩],rfl,rfl,⟨[.int .i64 0],[.int .i64 0,.int .i64 0,.int .i64 0,.int .u64 0,.string ⟨#[]⟩],rfl,rfl,⟨[.int .i64 0],[.int .i64 0,.int .i64 0,.int .u64 0,.string ⟨#[]⟩],rfl,rfl,mB _⟩⟩⟩⟩
structure aO where
 Nodes:(List ap)
 deriving DecidableEq,Inhabited
def cW:Rp aO:=na (ga bC) (fun x=>(x.Nodes))
def kY:lH cW 0 (ga bC) (fun x=>x.Nodes):=cd
def Qe:fa cW 0 (ga bC) (fun x y=>{x with Nodes:=y}):=bH aw (fun _ _=>rfl)
def sM: ∀S,cW.rc S [.slice none 0 0] ((⟨[]⟩:aO)):=fun _=>⟨none,0,rfl,eo _,pL _,.inl rfl⟩
structure eY where
 Tag:Int
 Arg:aO
 deriving DecidableEq,Inhabited
def fN:Rp eY:=na (co (rI .i64) cW) (fun x=>(x.Tag,x.Arg))
def mR:lH fN 0 (rI .i64) (fun x=>x.Tag):=(dh cd)
def R5:fa fN 0 (rI .i64) (fun x y=>{x with Tag:=y}):=bH cC (fun _ _=>rfl)
def q0:lH fN 1 cW (fun x=>x.Arg):=(aD cd rfl)
def R4:fa fN 1 cW (fun x y=>{x with Arg:=y}):=bH (ay aw rfl) (fun _ _=>rfl)
def u0: ∀S,fN.rc S [.int .i64 0,.slice none 0 0] ((⟨(0:Int),(⟨[]⟩:aO)⟩:eY)):=fun _=>⟨[.int .i64 0],[.slice none 0 0],rfl,rfl,sM _⟩
structure aa where
 Op:Int
 A:Int
 B:Int
 Table:Int
 Kinds:(List Int)
 Left:Bool
 Cond:aO
 Keys:(List Int)
 Aggs:(List eY)
 Items:(List aO)
 Order:(List ku)
 Limit:Int
 deriving DecidableEq,Inhabited
def bl:Rp aa:=na (co (rI .i64) (co (rI .i64) (co (rI .i64) (co (rI .i64) (co (ga (rI .i64)) (co rB (co cW (co (ga (rI .i64)) (co (ga fN) (co (ga cW) (co (ga iE) (rI .i64)))))))))))) (fun x=>(x.Op,x.A,x.B,x.Table,x.Kinds,x.Left,x.Cond,x.Keys,x.Aggs,x.Items,x.Order,x.Limit))
def eQ:lH bl 0 (rI .i64) (fun x=>x.Op):=(dh cd)
def Mp:fa bl 0 (rI .i64) (fun x y=>{x with Op:=y}):=bH cC (fun _ _=>rfl)
def ww:lH bl 1 (rI .i64) (fun x=>x.A):=(dh (aD cd rfl))
def ov:fa bl 1 (rI .i64) (fun x y=>{x with A:=y}):=bH (ay cC rfl) (fun _ _=>rfl)
def Ae:lH bl 2 (rI .i64) (fun x=>x.B):=(dh (aD (aD cd rfl) rfl))
def ou:fa bl 2 (rI .i64) (fun x y=>{x with B:=y}):=bH (ay (ay cC rfl) rfl) (fun _ _=>rfl)
def oO:lH bl 3 (rI .i64) (fun x=>x.Table):=(dh (aD (aD (aD cd rfl) rfl) rfl))
def Mo:fa bl 3 (rI .i64) (fun x y=>{x with Table:=y}):=bH (ay (ay (ay cC rfl) rfl) rfl) (fun _ _=>rfl)
def jA:lH bl 4 (ga (rI .i64)) (fun x=>x.Kinds):=(dh (aD (aD (aD (aD cd rfl) rfl) rfl) rfl))
def Mn:fa bl 4 (ga (rI .i64)) (fun x y=>{x with Kinds:=y}):=bH (ay (ay (ay (ay cC rfl) rfl) rfl) rfl) (fun _ _=>rfl)
def wv:lH bl 5 rB (fun x=>x.Left):=(dh (aD (aD (aD (aD (aD cd rfl) rfl) rfl) rfl) rfl))
def Mm:fa bl 5 rB (fun x y=>{x with Left:=y}):=bH (ay (ay (ay (ay (ay cC rfl) rfl) rfl) rfl) rfl) (fun _ _=>rfl)
def oN:lH bl 6 cW (fun x=>x.Cond):=(dh (aD (aD (aD (aD (aD (aD cd rfl) rfl) rfl) rfl) rfl) rfl))
def EC:fa bl 6 cW (fun x y=>{x with Cond:=y}):=bH (ay (ay (ay (ay (ay (ay cC rfl) rfl) rfl) rfl) rfl) rfl) (fun _ _=>rfl)
def iU:lH bl 7 (ga (rI .i64)) (fun x=>x.Keys):=(dh (aD (aD (aD (aD (aD (aD (aD cd rfl) rfl) rfl) rfl) rfl) rfl) rfl))
def Ml:fa bl 7 (ga (rI .i64)) (fun x y=>{x with Keys:=y}):=bH (ay (ay (ay (ay (ay (ay (ay cC rfl) rfl) rfl) rfl) rfl) rfl) rfl) (fun _ _=>rfl)
def gx:lH bl 8 (ga fN) (fun x=>x.Aggs):=(dh (aD (aD (aD (aD (aD (aD (aD (aD cd rfl) rfl) rfl) rfl) rfl) rfl) rfl) rfl))
def Mk:fa bl 8 (ga fN) (fun x y=>{x with Aggs:=y}):=bH (ay (ay (ay (ay (ay (ay (ay (ay cC rfl) rfl) rfl) rfl) rfl) rfl) rfl) rfl) (fun _ _=>rfl)
def oM:lH bl 9 (ga cW) (fun x=>x.Items):=(dh (aD (aD (aD (aD (aD (aD (aD (aD (aD cd rfl) rfl) rfl) rfl) rfl) rfl) rfl) rfl) rfl))
def Mj:fa bl 9 (ga cW) (fun x y=>{x with Items:=y}):=bH (ay (ay (ay (ay (ay (ay (ay (ay (ay cC rfl) rfl) rfl) rfl) rfl) rfl) rfl) rfl) rfl) (fun _ _=>rfl)
def m4:lH bl 10 (ga iE) (fun x=>x.Order):=(dh (aD (aD (aD (aD (aD (aD (aD (aD (aD (aD cd rfl) rfl) rfl) rfl) rfl) rfl) rfl) rfl) rfl) rfl))
def Ka:fa bl 10 (ga iE) (fun x y=>{x with Order:=y}):=bH (ay (ay (ay (ay (ay (ay (ay (ay (ay (ay cC rfl) rfl) rfl) rfl) rfl) rfl) rfl) rfl) rfl) rfl) (fun _ _=>rfl)
def qA:lH bl 11 (rI .i64) (fun x=>x.Limit):=(aD (aD (aD (aD (aD (aD (aD (aD (aD (aD (aD cd rfl) rfl) rfl) rfl) rfl) rfl) rfl) rfl) rfl) rfl) rfl)
def J9:fa bl 11 (rI .i64) (fun x y=>{x with Limit:=y}):=bH (ay (ay (ay (ay (ay (ay (ay (ay (ay (ay (ay aw rfl) rfl) rfl) rfl) rfl) rfl) rfl) rfl) rfl) rfl) rfl) (fun _ _=>rfl)
def k9: ∀S,bl.rc S [.int .i64 0,.int .i64 0,.int .i64 0,.int .i64 0,.slice none 0 0,.bool false,.slice none 0 0,.slice none 0 0,.slice none 0 0,.slice none 0 0,.slice none 0 0,.int .i64 0] ((⟨(0:Int),(0:Int),(0:Int),(0:Int),[],false,(⟨[]⟩:aO),[],[],[],[],(0:Int)⟩:aa)):=fun _=>⟨[.int .i64 0],[.int .i64 0,.int .i64 0,.int .i64 0,.slice none 0 0,.bool false,.slice none 0 0,.slice none 0 0,.slice none 0 0,.slice none 0 0,.slice none 0 0,.int .i64 0],rfl,rfl,⟨[.int .i64 0],[.int .i64 0,.int .i64 0,.slice none 0 0,.bool false,.slice none 0 0,.slice none 0 0,.slice none 0 0,.slice none 0 0,.slice none 0 0,.int .i64 0],rfl,rfl,⟨[.int .i64 0],[.int .i64 0,.slice none 0 0,.bool false,.slice none 0 0,.slice none 0 0,.slice none 0 0,.slice none 0 0,.slice none 0 0,.int .i64 0],rfl,rfl,⟨[.int .i64 0],[.slice none 0 0,.bool false,.slice none 0 0,.slice none 0 0,.slice none 0 0,.slice none 0 0,.slice none 0 0,.int .i64 0],rfl,rfl,⟨[.slice none 0 0],[.bool false,.slice none 0 0,.slice none 0 0,.slice none 0 0,.slice none 0 0,.slice none 0 0,.int .i64 0],rfl,⟨none,0,rfl,eo _,pL _,.inl rfl⟩,⟨[.bool false],[.slice none 0 0,.slice none 0 0,.slice none 0 0,.slice none 0 0,.slice none 0 0,.int .i64 0],rfl,rfl,⟨[.slice none 0 0],[.slice none 0 0,.slice none 0 0,.slice none 0 0,.slice none 0 0,.int .i64 0],rfl,sM _,⟨[.slice none 0 0],[.slice none 0 0,.slice none 0 0,.slice none 0 0,.int .i64 0],rfl,⟨none,0,rfl,eo _,pL _,.inl rfl⟩,⟨[.slice none 0 0],[.slice none 0 0,.slice none 0 0,.int .i64 0],rfl,⟨none,0,rfl,eo _,pL _,.inl rfl⟩,⟨[.slice none 0 0],[.slice none 0 0,.int .i64 0],rfl,⟨none,0,rfl,eo _,pL _,.inl rfl⟩,⟨[.slice none 0 0],[.int .i64 0],rfl,⟨none,0,rfl,eo _,pL _,.inl rfl⟩,rfl⟩⟩⟩⟩⟩⟩⟩⟩⟩⟩⟩
structure dp where
 Nodes:(List aa)
 At:Int
 Way:Int
 Cols:(List Int)
 deriving DecidableEq,Inhabited
def cJ:Rp dp:=na (co (ga bl) (co (rI .i64) (co (rI .i64) (ga (rI .i64))))) (fun x=>(x.Nodes,x.At,x.Way,x.Cols))
def tn:lH cJ 0 (ga bl) (fun x=>x.Nodes):=(dh cd)
def Qd:fa cJ 0 (ga bl) (fun x y=>{x with Nodes:=y}):=bH cC (fun _ _=>rfl)
def vH:lH cJ 1 (rI .i64) (fun x=>x.At):=(dh (aD cd rfl))
def GV:fa cJ 1 (rI .i64) (fun x y=>{x with At:=y}):=bH (ay cC rfl) (fun _ _=>rfl)
def vG:lH cJ 2 (rI .i64) (fun x=>x.Way):=(dh (aD (aD cd rfl) rfl))
def GU:fa cJ 2 (rI .i64) (fun x y=>{x with Way:=y}):=bH (ay (ay cC rfl) rfl) (fun _ _=>rfl)
def tm:lH cJ 3 (ga (rI .i64)) (fun x=>x.Cols):=(aD (aD (aD cd rfl) rfl) rfl)
def GT:fa cJ 3 (ga (rI .i64)) (fun x y=>{x with Cols:=y}):=bH (ay (ay (ay aw rfl) rfl) rfl) (fun _ _=>rfl)
def pU: ∀S,cJ.rc S [.slice none 0 0,.int .i64 0,.int .i64 0,.slice none 0 0] ((⟨[],(0:Int),(0:Int),[]⟩:dp)):=fun _=>⟨[.slice none 0 0],[.int .i64 0,.int .i64 0,.slice none 0 0],rfl,⟨none,0,rfl,eo _,pL _,.inl rfl⟩,⟨[.int .i64 0],[.int .i64 0,.slice none 0 0],rfl,rfl,⟨[.int .i64 0],[.slice none 0 0],rfl,rfl,⟨none,0,rfl,eo _,pL _,.inl rfl⟩⟩⟩⟩
structure cV where
 Frags:(List dp)
 deriving DecidableEq,Inhabited
def mp:Rp cV:=na (ga cJ) (fun x=>(x.Frags))
def pu:lH mp 0 (ga cJ) (fun x=>x.Frags):=cd
def Qc:fa mp 0 (ga cJ) (fun x y=>{x with Frags:=y}):=bH aw (fun _ _=>rfl)
def Ds: ∀S,mp.rc S [.slice none 0 0] ((⟨[]⟩:cV)):=fun _=>⟨none,0,rfl,eo _,pL _,.inl rfl⟩
structure bT where
 Kind:Int
 From:Int
 To:Int
 Epoch:Int
 Frag:Int
 Sites:Int
 Plan:cV
 Packet:aI
 Err:Int
 deriving DecidableEq,Inhabited
def fM:Rp bT:=na (co (rI .i64) (co (rI .i64) (co (rI .i64) (co (rI .i64) (co (rI .i64) (co (rI .i64) (co mp (co cz (rI .i64))))))))) (fun x=>(x.Kind,x.From,x.To,x.Epoch,x.Frag,x.Sites,x.Plan,x.Packet,x.Err))
def t7:lH fM 0 (rI .i64) (fun x=>x.Kind):=(dh cd)
def EB:fa fM 0 (rI .i64) (fun x y=>{x with Kind:=y}):=bH cC (fun _ _=>rfl)
def Bv:lH fM 1 (rI .i64) (fun x=>x.From):=(dh (aD cd rfl))
def EA:fa fM 1 (rI .i64) (fun x y=>{x with From:=y}):=bH (ay cC rfl) (fun _ _=>rfl)
def Bu:lH fM 2 (rI .i64) (fun x=>x.To):=(dh (aD (aD cd rfl) rfl))
def J8:fa fM 2 (rI .i64) (fun x y=>{x with To:=y}):=bH (ay (ay cC rfl) rfl) (fun _ _=>rfl)
def yi:lH fM 3 (rI .i64) (fun x=>x.Epoch):=(dh (aD (aD (aD cd rfl) rfl) rfl))
def Ez:fa fM 3 (rI .i64) (fun x y=>{x with Epoch:=y}):=bH (ay (ay (ay cC rfl) rfl) rfl) (fun _ _=>rfl)
def yh:lH fM 4 (rI .i64) (fun x=>x.Frag):=(dh (aD (aD (aD (aD cd rfl) rfl) rfl) rfl))
def Ey:fa fM 4 (rI .i64) (fun x y=>{x with Frag:=y}):=bH (ay (ay (ay (ay cC rfl) rfl) rfl) rfl) (fun _ _=>rfl)
def yg:lH fM 5 (rI .i64) (fun x=>x.Sites):=(dh (aD (aD (aD (aD (aD cd rfl) rfl) rfl) rfl) rfl))
def J7:fa fM 5 (rI .i64) (fun x y=>{x with Sites:=y}):=bH (ay (ay (ay (ay (ay cC rfl) rfl) rfl) rfl) rfl) (fun _ _=>rfl)
def yf:lH fM 6 mp (fun x=>x.Plan):=(dh (aD (aD (aD (aD (aD (aD cd rfl) rfl) rfl) rfl) rfl) rfl))
def J6:fa fM 6 mp (fun x y=>{x with Plan:=y}):=bH (ay (ay (ay (ay (ay (ay cC rfl) rfl) rfl) rfl) rfl) rfl) (fun _ _=>rfl)
def vF:lH fM 7 cz (fun x=>x.Packet):=(dh (aD (aD (aD (aD (aD (aD (aD cd rfl) rfl) rfl) rfl) rfl) rfl) rfl))
def Ew:fa fM 7 cz (fun x y=>{x with Packet:=y}):=bH (ay (ay (ay (ay (ay (ay (ay cC rfl) rfl) rfl) rfl) rfl) rfl) rfl) (fun _ _=>rfl)
def ye:lH fM 14 (rI .i64) (fun x=>x.Err):=(aD (aD (aD (aD (aD (aD (aD (aD cd rfl) rfl) rfl) rfl) rfl) rfl) rfl) rfl)
def Ev:fa fM 14 (rI .i64) (fun x y=>{x with Err:=y}):=bH (ay (ay (ay (ay (ay (ay (ay (ay aw rfl) rfl) rfl) rfl) rfl) rfl) rfl) rfl) (fun _ _=>rfl)
def p7: ∀S,fM.rc S [.int .i64 0,.int .i64 0,.int .i64 0,.int .i64 0,.int .i64 0,.int .i64 0,.slice none 0 0,.int .i64 0,.int .u32 0,.int .u64 0,.int .u64 0,.slice none 0 0,.bool false,.int .u64 0,.int .i64 0] ((⟨(0:Int),(0:Int),(0:Int),(0:Int),(0:Int),(0:Int),(⟨[]⟩:cV),(⟨(0:Int),(0:Int),(0:Int),(0:Int),(⟨[],false,(0:Int)⟩:bI)⟩:aI),(0:Int)⟩:bT)):=fun _=>⟨[.int .i64 0],[.int .i64 0,.int .i64 0,.int .i64 0,.int .i64 0,.int .i64 0,.slice none 0 0,.int .i64 0,.int .u32 0,.int .u64 0,.int .u64 0,.slice none 0 0,.bool false,.int .u64 0,.int .i64 0],rfl,rfl,⟨[.int .i64 0],[.int .i64 0,.int .i64 0,.int .i64 0,.int .i64 0,.slice none 0 0,.int .i64 0,.int .u32 0,.int .u64 0,.int .u64 0,.slice none 0 0,.bool false,.int .u64 0,.int .i64 0],rfl,rfl,⟨[.int .i64 0],[.int .i64 0,.int .i64 0,.int .i64 0,.slice none 0 0,.int .i64 0,.int .u32 0,.int .u64 0,.int .u64 0,.slice none 0 0,.bool false,.int .u64 0,.int .i64 0],rfl,rfl,⟨[.int .i64 0],[.int .i64 0,.int .i64 0,.slice none 0 0,.int .i64 0,.int .u32 0,.int .u64 0,.int .u64 0,.slice none 0 0,.bool false,.int .u64 0,.int .i64 0],rfl,rfl,⟨[.int .i64 0],[.int .i64 0,.slice none 0 0,.int .i64 0,.int .u32 0,.int .u64 0,.int .u64 0,.slice none 0 0,.bool false,.int .u64 0,.int .i64 0],rfl,rfl,⟨[.int .i64 0],[.slice none 0 0,.int .i64 0,.int .u32 0,.int .u64 0,.int .u64 0,.slice none 0 0,.bool false,.int .u64 0,.int .i64 0],rfl,rfl,⟨[.slice none 0 0],[.int .i64 0,.int .u32 0,.int .u64 0,.int .u64 0,.slice none 0 0,.bool false,.int .u64 0,.int .i64 0],rfl,Ds _,⟨[.int .i64 0,.int .u32 0,.int .u64 0,.int .u64 0,.slice none 0 0,.bool false,.int .u64 0],[.int .i64 0],rfl,ql _,rfl⟩⟩⟩⟩⟩⟩⟩⟩
structure al where
 nodes:(List aa)
 kinds:(List (List Int))
 open_:(List Int)
 n:aa
 a_:(List Int)
 b:(List Int)
 result:(List Int)
 deriving DecidableEq,Inhabited
def bu:Rp al:=na (co (ga bl) (co (ga (ga (rI .i64))) (co (Qn:Rp (List Int)) (co bl (co (ga (rI .i64)) (co (ga (rI .i64)) (ga (rI .i64)))))))) (fun x=>(x.nodes,x.kinds,x.open_,x.n,x.a_,x.b,x.result))
def Cq:lH bu 0 (ga bl) (fun x=>x.nodes):=(dh cd)
def Qb:fa bu 0 (ga bl) (fun x y=>{x with nodes:=y}):=bH cC (fun _ _=>rfl)
def Qa:fa bu 1 (ga (ga (rI .i64))) (fun x y=>{x with kinds:=y}):=bH (ay cC rfl) (fun _ _=>rfl)
def PZ:fa bu 2 (Qn:Rp (List Int)) (fun x y=>{x with open_:=y}):=bH (ay (ay cC rfl) rfl) (fun _ _=>rfl)
def fT:lH bu 3 bl (fun x=>x.n):=(dh (aD (aD (aD cd rfl) rfl) rfl))
def PY:fa bu 3 bl (fun x y=>{x with n:=y}):=bH (ay (ay (ay cC rfl) rfl) rfl) (fun _ _=>rfl)
def pt:lH bu 15 (ga (rI .i64)) (fun x=>x.a_):=(dh (aD (aD (aD (aD cd rfl) rfl) rfl) rfl))
def GS:fa bu 15 (ga (rI .i64)) (fun x y=>{x with a_:=y}):=bH (ay (ay (ay (ay cC rfl) rfl) rfl) rfl) (fun _ _=>rfl)
def Ho:lH bu 16 (ga (rI .i64)) (fun x=>x.b):=(dh (aD (aD (aD (aD (aD cd rfl) rfl) rfl) rfl) rfl))
def GR:fa bu 16 (ga (rI .i64)) (fun x y=>{x with b:=y}):=bH (ay (ay (ay (ay (ay cC rfl) rfl) rfl) rfl) rfl) (fun _ _=>rfl)
def Cp:lH bu 17 (ga (rI .i64)) (fun x=>x.result):=(aD (aD (aD (aD (aD (aD cd rfl) rfl) rfl) rfl) rfl) rfl)
def tf:fa bu 17 (ga (rI .i64)) (fun x y=>{x with result:=y}):=bH (ay (ay (ay (ay (ay (ay aw rfl) rfl) rfl) rfl) rfl) rfl) (fun _ _=>rfl)
def Us: ∀S,bu.rc S [.slice none 0 0,.slice none 0 0,.slice none 0 0,.int .i64 0,.int .i64 0,.int .i64 0,.int .i64 0,.slice none 0 0,.bool false,.slice none 0 0,.slice none 0 0,.slice none 0 0,.slice none 0 0,.slice none 0 0,.int .i64 0,.slice none 0 0,.slice none 0 0,.slice none 0 0] ((⟨[],[],[],(⟨(0:Int),(0:Int),(0:Int),(0:Int),[],false,(⟨[]⟩:aO),[],[],[],[],(0:Int)⟩:aa),[],[],[]⟩:al)):=fun _=>⟨[.slice none 0 0],[.slice none 0 0,.slice none 0 0,.int .i64 0,.int .i64 0,.int .i64 0,.int .i64 0,.slice none 0 0,.bool false,.slice none 0 0,.slice none 0 0,.slice none 0 0,.slice none 0 0,.slice none 0 0,.int .i64 0,.slice none 0 0,.slice none 0 0,.slice none 0 0],rfl,⟨none,0,rfl,eo _,pL _,.inl rfl⟩,⟨[.slice none 0 0],[.slice none 0 0,.int .i64 0,.int .i64 0,.int .i64 0,.int .i64 0,.slice none 0 0,.bool false,.slice none 0 0,.slice none 0 0,.slice none 0 0,.slice none 0 0,.slice none 0 0,.int .i64 0,.slice none 0 0,.slice none 0 0,.slice none 0 0],rfl,⟨none,0,rfl,eo _,pL _,.inl rfl⟩,⟨[.slice none 0 0],[.int .i64 0,.int .i64 0,.int .i64 0,.int .i64 0,.slice none 0 0,.bool false,.slice none 0 0,.slice none 0 0,.slice none 0 0,.slice none 0 0,.slice none 0 0,.int .i64 0,.slice none 0 0,.slice none 0 0,.slice none 0 0],rfl,⟨_,rfl,rfl⟩,⟨[.int .i64 0,.int .i64 0,.int .i64 0,.int .i64 0,.slice none 0 0,.bool false,.slice none 0 0,.slice none 0 0,.slice none 0 0,.slice none 0 0,.slice none 0 0,.int .i64 0],[.slice none 0 0,.slice none 0 0,.slice none 0 0],rfl,k9 _,⟨[.slice none 0 0],[.slice none 0 0,.slice none 0 0],rfl,⟨none,0,rfl,eo _,pL _,.inl rfl⟩,⟨[.slice none 0 0],[.slice none 0 0],rfl,⟨none,0,rfl,eo _,pL _,.inl rfl⟩,⟨none,0,rfl,eo _,pL _,.inl rfl⟩⟩⟩⟩⟩⟩⟩
structure aT where
 bytes:(List Int)
 deriving DecidableEq,Inhabited
def cX:Rp aT:=na (ga (rI .u8)) (fun x=>(x.bytes))
def m0:fa cX 0 (ga (rI .u8)) (fun x y=>{x with bytes:=y}):=bH aw (fun _ _=>rfl)
def PC: ∀S,cX.rc S [.slice none 0 0] ((⟨[]⟩:aT)):=fun _=>⟨none,0,rfl,eo _,pL _,.inl rfl⟩
structure io where
 Nodes:(List aa)
 deriving DecidableEq,Inhabited
structure me where
 at_:Int
 why:Int
 deriving DecidableEq,Inhabited
def qM:Rp me:=na (co (rI .i64) (rI .i64)) (fun x=>(x.at_,x.why))
def tZ:lH qM 0 (rI .i64) (fun x=>x.at_):=(dh cd)
def Es:fa qM 0 (rI .i64) (fun x y=>{x with at_:=y}):=bH cC (fun _ _=>rfl)
def Ad:lH qM 1 (rI .i64) (fun x=>x.why):=(aD cd rfl)
def wd:fa qM 1 (rI .i64) (fun x y=>{x with why:=y}):=bH (ay aw rfl) (fun _ _=>rfl)
def Rt: ∀S,qM.rc S [.int .i64 0,.int .i64 0] ((⟨(0:Int),(0:Int)⟩:me)):=fun _=>⟨[.int .i64 0],[.int .i64 0],rfl,rfl,rfl⟩
structure af where
 place:me
 own:(List Int)
 deriving DecidableEq,Inhabited
def iw:Rp af:=na (co qM (ga (rI .u8))) (fun x=>(x.place,x.own))
def gY:lH iw 0 qM (fun x=>x.place):=(dh cd)
def qn:fa iw 0 qM (fun x y=>{x with place:=y}):=bH cC (fun _ _=>rfl)
def yd:lH iw 2 (ga (rI .u8)) (fun x=>x.own):=(aD cd rfl)
structure aK where
 Reader:af
 all:(List Int)
 bad:Bool
 deriving DecidableEq,Inhabited
def aj:Rp aK:=na (co (Qn:Rp af) (co (ga (rI .u8)) rB)) (fun x=>(x.Reader,x.all,x.bad))
def uL:lH aj 1 (ga (rI .u8)) (fun x=>x.all):=(dh (aD cd rfl))
def uK:lH aj 2 rB (fun x=>x.bad):=(aD (aD cd rfl) rfl)
def uy:fa aj 2 rB (fun x y=>{x with bad:=y}):=bH (ay (ay aw rfl) rfl) (fun _ _=>rfl)
structure cE where
 Reader:af
 all:Int
 bad:Bool
 deriving DecidableEq,Inhabited
def bJ:Rp cE:=na (co (Qn:Rp af) (co (rI .i64) rB)) (fun x=>(x.Reader,x.all,x.bad))
def tY:lH bJ 1 (rI .i64) (fun x=>x.all):=(dh (aD cd rfl))
def wu:lH bJ 2 rB (fun x=>x.bad):=(aD (aD cd rfl) rfl)
def Er:fa bJ 2 rB (fun x y=>{x with bad:=y}):=bH (ay (ay aw rfl) rfl) (fun _ _=>rfl)
structure acV where
 Bytes:(List Int)
 At:Int
 Bad:Bool
 deriving DecidableEq,Inhabited
structure acT where
 Nodes:Value
 At:Int
 Way:Int
 Cols:(List Int)
structure acU where
 Nodes:Value
structure Xz where
 Op:Int
 A:Int
 B:Int
 Table:Int
 Kinds:(List Int)
 Left:Bool
 Cond:aO
 Keys:(List Int)
 Aggs:Value
 Items:(List aO)
 Order:Value
 Limit:Int
structure acP where
 Op:Int
 A:Int
 B:Int
 Table:Int
 Kinds:(List Int)
 Left:Bool
 Cond:aO
 Keys:(List Int)
 Aggs:(List eY)
 Items:Value
 Order:(List ku)
 Limit:Int
structure acO where
 Nodes:Value
structure HF where
 Reader:Value
 all:(List Int)
 bad:Bool
def sh:Rp HF:=na (co rV (co (ga (rI .u8)) rB)) (fun x=>(x.Reader,x.all,x.bad))
def F2:fa sh 0 rV (fun x y=>{x with Reader:=y}):=bH cC (fun _ _=>rfl)
def F1:fa sh 1 (ga (rI .u8)) (fun x y=>{x with all:=y}):=bH (ay cC rfl) (fun _ _=>rfl)
def xX(y:aK)(v0:Value):HF:=⟨v0,y.all,y.bad⟩
def JF: ∀S,sh.rc S [.pointer none,.slice none 0 0,.bool false] (xX ((⟨(⟨(⟨(0:Int),(0:Int)⟩:me),[]⟩:af),[],false⟩:aK)) (.pointer none)):=fun _=>⟨[.pointer none],[.slice none 0 0,.bool false],rfl,⟨rfl,rfl⟩,⟨[.slice none 0 0],[.bool false],rfl,⟨none,0,rfl,eo _,pL _,.inl rfl⟩,rfl⟩⟩
structure Pu where
 nodes:(List aa)
 kinds:(List (List Int))
 open_:(List Int)
 n:aa
 a_:(List Int)
 b:(List Int)
 result:Value
def cn:Rp Pu:=na (co (ga bl) (co (ga (ga (rI .i64))) (co (Qn:Rp (List Int)) (co bl (co (ga (rI .i64)) (co (ga (rI .i64)) rV)))))) (fun x=>(x.nodes,x.kinds,x.open_,x.n,x.a_,x.b,x.result))
def yc:lH cn 3 bl (fun x=>x.n):=(dh (aD (aD (aD cd rfl) rfl) rfl))
def kT:lH cn 15 (ga (rI .i64)) (fun x=>x.a_):=(dh (aD (aD (aD (aD cd rfl) rfl) rfl) rfl))
def Lg:lH cn 16 (ga (rI .i64)) (fun x=>x.b):=(dh (aD (aD (aD (aD (aD cd rfl) rfl) rfl) rfl) rfl))
def lS:lH cn 17 rV (fun x=>x.result):=(aD (aD (aD (aD (aD (aD cd rfl) rfl) rfl) rfl) rfl) rfl)
def cG(y:al)(v6:Value):Pu:=⟨y.nodes,y.kinds,y.open_,y.n,y.a_,y.b,v6⟩
structure HG where
 place:me
 own:Value
def qo:Rp HG:=na (co qM rV) (fun x=>(x.place,x.own))
def Gn:lH qo 2 rV (fun x=>x.own):=(aD cd rfl)
def F3:fa qo 2 rV (fun x y=>{x with own:=y}):=bH (ay aw rfl) (fun _ _=>rfl)
def uF(y:af)(v1:Value):HG:=⟨y.place,v1⟩
def JG: ∀S,qo.rc S [.int .i64 0,.int .i64 0,.slice none 0 0] (uF ((⟨(⟨(0:Int),(0:Int)⟩:me),[]⟩:af)) (av none 0 0)):=fun _=>⟨[.int .i64 0,.int .i64 0],[.slice none 0 0],rfl,Rt _,⟨rfl,rfl⟩⟩
structure LE where
 Reader:Value
 all:Int
 bad:Bool
def tK:Rp LE:=na (co rV (co (rI .i64) rB)) (fun x=>(x.Reader,x.all,x.bad))
def Iq:fa tK 0 rV (fun x y=>{x with Reader:=y}):=bH cC (fun _ _=>rfl)
def Ip:fa tK 1 (rI .i64) (fun x y=>{x with all:=y}):=bH (ay cC rfl) (fun _ _=>rfl)
def z8(y:cE)(v0:Value):LE:=⟨v0,y.all,y.bad⟩
def LW: ∀S,tK.rc S [.pointer none,.int .i64 0,.bool false] (z8 ((⟨(⟨(⟨(0:Int),(0:Int)⟩:me),[]⟩:af),(0:Int),false⟩:cE)) (.pointer none)):=fun _=>⟨[.pointer none],[.int .i64 0,.bool false],rfl,⟨rfl,rfl⟩,⟨[.int .i64 0],[.bool false],rfl,rfl,rfl⟩⟩
def iV{S:SH}{cs:List Value}{y:al}{v6:Value}{xs6:(List Int)}(k6:(ga (rI .i64)).rc S [v6] xs6)(h:cn.rc S cs (cG y v6)):bu.rc S cs ((⟨y.nodes,y.kinds,y.open_,y.n,y.a_,y.b,xs6⟩:al)):=by
 obtain⟨a0,b0,e0,h0,a1,b1,e1,Y,a2,b2,e2,X,a3,b3,e3,d,a4,b4,e4,h4,a5,b5,e5,h5,h6⟩:=h
 exact⟨a0,b0,e0,h0,a1,b1,e1,Y,a2,b2,e2,X,a3,b3,e3,d,a4,b4,e4,h4,a5,b5,e5,h5,(by rw [h6.1];exact k6)⟩
def Cx{S:SH}{cs:List Value}{y:af}{v1:Value}{xs1:(List Int)}(k1:(ga (rI .u8)).rc S [v1] xs1)(h:qo.rc S cs (uF y v1)):iw.rc S cs ((⟨y.place,xs1⟩:af)):=by
 obtain⟨a0,b0,e0,h0,Y⟩:=h
 exact⟨a0,b0,e0,h0,(by rw [Y.1];exact k1)⟩
def lL(y:al)(v:Value):vO bu cn 17 rV (y) v (cG y v):=Oc (pV (pV (pV (pV (pV (pV (B9 rfl) rfl) rfl) rfl) rfl) rfl) rfl) rfl
def iY(y:al)(u:Value)(v:Value):vO cn cn 17 rV (cG y u) v (cG y v):=Oc (pV (pV (pV (pV (pV (pV (B9 rfl) rfl) rfl) rfl) rfl) rfl) rfl) rfl
def eN(b:Nat)(x:al)(i:OI):List OE:=[Q (rH bu [(1,av (i.h 0).1 (i.h 0).2 x.kinds.length),(2,av (i.h 1).1 (i.h 1).2 x.open_.length)]) 168 b x,tip (ga (rI .i64)) 69 (i.h 0).1 (i.h 0).2 x.kinds,dr (rI .i64) 3 (i.h 1).1 (i.h 1).2 x.open_]
def fm(b:Nat)(x:aT)(i:OI):List OE:=[Q (rH cX [(0,av (i.h 0).1 (i.h 0).2 x.bytes.length)]) 60 b x,tip (rI .u8) 5 (i.h 0).1 (i.h 0).2 x.bytes]
def Ym(b:Nat)(x:al)(i:OI):List OE:=[Q (rH cn [(1,av (i.h 0).1 (i.h 0).2 x.kinds.length),(2,av (i.h 1).1 (i.h 1).2 x.open_.length)]) 168 b (cG x (av (i.h 2).1 (i.h 2).2 x.result.length)),tip (ga (rI .i64)) 69 (i.h 0).1 (i.h 0).2 x.kinds,dr (rI .i64) 3 (i.h 1).1 (i.h 1).2 x.open_,dr (rI .i64) 3 (i.h 2).1 (i.h 2).2 x.result]
def abi{S:SH}{cs:List Value}{y:aK}{v:Value}(h:sh.rc S cs (xX y v)):(rH aj [(0,v)]).rc S cs y:=by
 obtain⟨a0,b0,e0,h0,a1,b1,e1,Y,X⟩:=h
 refine⟨⟨a0,b0,e0,⟨v,h0.1,h0.2⟩,a1,b1,e1,Y,X⟩,fun p hp=>?_⟩
 simp at hp
 subst hp
 rw [e0,h0.1]
 rfl
def abh{S:SH}{cs:List Value}{y:cE}{v:Value}(h:tK.rc S cs (z8 y v)):(rH bJ [(0,v)]).rc S cs y:=by
 obtain⟨a0,b0,e0,h0,a1,b1,e1,Y,X⟩:=h
 refine⟨⟨a0,b0,e0,⟨v,h0.1,h0.2⟩,a1,b1,e1,Y,X⟩,fun p hp=>?_⟩
 simp at hp
 subst hp
 rw [e0,h0.1]
 rfl

end Go.Proofs.YtdohlidddcgfjaaGreat

