/- bO of this claim: D. -/
import Derived.Test.YtdohlidddcgfjaaGreatFeV3
import Derived.Test.YtdohlidddcgfjaaGreatFeV4
set_option linter.all false
namespace Go.Proofs.YtdohlidddcgfjaaGreat
open Go

structure am where
 Kind:Int
 N:Int
 U:Int
 S:QQ
 deriving DecidableEq,Inhabited
def bd:Rp am:=rf (dD (rI .i64) (dD (rI .i64) (dD (rI .u64) rS))) (fun x=>(x.Kind,x.N,x.U,x.S))
def nF:kP bd 0 (rI .i64) (fun x=>x.Kind):=(cZ bZ)
def uJ:eD bd 0 (rI .i64) (fun x y=>{x with Kind:=y}):=bB cx (fun _ _=>rfl)
def qr:kP bd 1 (rI .i64) (fun x=>x.N):=(cZ (aB bZ rfl))
def sb:eD bd 1 (rI .i64) (fun x y=>{x with N:=y}):=bB (aw cx rfl) (fun _ _=>rfl)
def C7:kP bd 2 (rI .u64) (fun x=>x.U):=(cZ (aB (aB bZ rfl) rfl))
def Cz:eD bd 2 (rI .u64) (fun x y=>{x with U:=y}):=bB (aw (aw cx rfl) rfl) (fun _ _=>rfl)
def uV:kP bd 3 rS (fun x=>x.S):=(aB (aB (aB bZ rfl) rfl) rfl)
def Cy:eD bd 3 rS (fun x y=>{x with S:=y}):=bB (aw (aw (aw ax rfl) rfl) rfl) (fun _ _=>rfl)
def mB: ∀S,bd.rc S [.int .i64 0,.int .i64 0,.int .u64 0,.string ⟨#[]⟩] ((⟨(0:Int),(0:Int),(0:Int),[]⟩:am)):=fun _=>⟨[.int .i64 0],[.int .i64 0,.int .u64 0,.string ⟨#[]⟩],rfl,rfl,⟨[.int .i64 0],[.int .u64 0,.string ⟨#[]⟩],rfl,rfl,⟨[.int .u64 0],[.string ⟨#[]⟩],rfl,rfl,rfl⟩⟩⟩
structure bH where
 Rows:(List (List am))
 End:Bool
 Count:Int
 deriving DecidableEq,Inhabited
def ki:Rp bH:=rf (dD (gE (gE bd)) (dD rB (rI .u64))) (fun x=>(x.Rows,x.End,x.Count))
def o0:kP ki 0 (gE (gE bd)) (fun x=>x.Rows):=(cZ bZ)
def J5:eD ki 0 (gE (gE bd)) (fun x y=>{x with Rows:=y}):=bB cx (fun _ _=>rfl)
def nK:kP ki 1 rB (fun x=>x.End):=(cZ (aB bZ rfl))
def J4:eD ki 1 rB (fun x y=>{x with End:=y}):=bB (aw cx rfl) (fun _ _=>rfl)
def oZ:kP ki 2 (rI .u64) (fun x=>x.Count):=(aB (aB bZ rfl) rfl)
def J3:eD ki 2 (rI .u64) (fun x y=>{x with Count:=y}):=bB (aw (aw ax rfl) rfl) (fun _ _=>rfl)
def Hn: ∀S,ki.rc S [.slice none 0 0,.bool false,.int .u64 0] ((⟨[],false,(0:Int)⟩:bH)):=fun _=>⟨[.slice none 0 0],[.bool false,.int .u64 0],rfl,⟨none,0,rfl,dY _,oC _,.inl rfl⟩,⟨[.bool false],[.int .u64 0],rfl,rfl,rfl⟩⟩
structure aO where
 Kind:Int
 Session:Int
 Seq:Int
 Limit:Int
 Batch:bH
 deriving DecidableEq,Inhabited
def cu:Rp aO:=rf (dD (rI .i64) (dD (rI .u32) (dD (rI .u64) (dD (rI .u64) ki)))) (fun x=>(x.Kind,x.Session,x.Seq,x.Limit,x.Batch))
def qY:kP cu 0 (rI .i64) (fun x=>x.Kind):=(cZ bZ)
def A8:eD cu 0 (rI .i64) (fun x y=>{x with Kind:=y}):=bB cx (fun _ _=>rfl)
def ta:kP cu 1 (rI .u32) (fun x=>x.Session):=(cZ (aB bZ rfl))
def A7:eD cu 1 (rI .u32) (fun x y=>{x with Session:=y}):=bB (aw cx rfl) (fun _ _=>rfl)
def nG:kP cu 2 (rI .u64) (fun x=>x.Seq):=(cZ (aB (aB bZ rfl) rfl))
def A6:eD cu 2 (rI .u64) (fun x y=>{x with Seq:=y}):=bB (aw (aw cx rfl) rfl) (fun _ _=>rfl)
def pn:kP cu 3 (rI .u64) (fun x=>x.Limit):=(cZ (aB (aB (aB bZ rfl) rfl) rfl))
def HO:eD cu 3 (rI .u64) (fun x y=>{x with Limit:=y}):=bB (aw (aw (aw cx rfl) rfl) rfl) (fun _ _=>rfl)
def fm:kP cu 4 ki (fun x=>x.Batch):=(aB (aB (aB (aB bZ rfl) rfl) rfl) rfl)
def vS:eD cu 4 ki (fun x y=>{x with Batch:=y}):=bB (aw (aw (aw (aw ax rfl) rfl) rfl) rfl) (fun _ _=>rfl)
def o5: ∀S,cu.rc S [.int .i64 0,.int .u32 0,.int .u64 0,.int .u64 0,.slice none 0 0,.bool false,.int .u64 0] ((⟨(0:Int),(0:Int),(0:Int),(0:Int),(⟨[],false,(0:Int)⟩:bH)⟩:aO)):=fun _=>⟨[.int .i64 0],[.int .u32 0,.int .u64 0,.int .u64 0,.slice none 0 0,.bool false,.int .u64 0],rfl,rfl,⟨[.int .u32 0],[.int .u64 0,.int .u64 0,.slice none 0 0,.bool false,.int .u64 0],rfl,rfl,⟨[.int .u64 0],[.int .u64 0,.slice none 0 0,.bool false,.int .u64 0],rfl,rfl,⟨[.int .u64 0],[.slice none 0 0,.bool false,.int .u64 0],rfl,rfl,Hn _⟩⟩⟩⟩
structure kF where
 Col:Int
 Desc:Bool
 deriving DecidableEq,Inhabited
def ia:Rp kF:=rf (dD (rI .i64) rB) (fun x=>(x.Col,x.Desc))
def zw:kP ia 0 (rI .i64) (fun x=>x.Col):=(cZ bZ)
def O5:eD ia 0 (rI .i64) (fun x y=>{x with Col:=y}):=bB cx (fun _ _=>rfl)
def IR:kP ia 1 rB (fun x=>x.Desc):=(aB bZ rfl)
def O4:eD ia 1 rB (fun x y=>{x with Desc:=y}):=bB (aw ax rfl) (fun _ _=>rfl)
def Jy: ∀S,ia.rc S [.int .i64 0,.bool false] ((⟨(0:Int),false⟩:kF)):=fun _=>⟨[.int .i64 0],[.bool false],rfl,rfl,rfl⟩
structure ap where
 Tag:Int
 L:Int
 R:Int
 Col:Int
 Value:am
 deriving DecidableEq,Inhabited
def bC:Rp ap:=rf (dD (rI .i64) (dD (rI .i64) (dD (rI .i64) (dD (rI .i64) bd)))) (fun x=>(x.Tag,x.L,x.R,x.Col,x.Value))
def fT:kP bC 0 (rI .i64) (fun x=>x.Tag):=(cZ bZ)
def J2:eD bC 0 (rI .i64) (fun x y=>{x with Tag:=y}):=bB cx (fun _ _=>rfl)
def C9:kP bC 1 (rI .i64) (fun x=>x.L):=(cZ (aB bZ rfl))
def ye:eD bC 1 (rI .i64) (fun x y=>{x with L:=y}):=bB (aw cx rfl) (fun _ _=>rfl)
def C8:kP bC 2 (rI .i64) (fun x=>x.R):=(cZ (aB (aB bZ rfl) rfl))
def yd:eD bC 2 (rI .i64) (fun x y=>{x with R:=y}):=bB (aw (aw cx rfl) rfl) (fun _ _=>rfl)
def nJ:kP bC 3 (rI .i64) (fun x=>x.Col):=(cZ (aB (aB (aB bZ rfl) rfl) rfl))
def J1:eD bC 3 (rI .i64) (fun x y=>{x with Col:=y}):=bB (aw (aw (aw cx rfl) rfl) rfl) (fun _ _=>rfl)
def qv:kP bC 4 bd (fun x=>x.Value):=(aB (aB (aB (aB bZ rfl) rfl) rfl) rfl)
def J0:eD bC 4 bd (fun x y=>{x with Value:=y}):=bB (aw (aw (aw (aw ax rfl) rfl) rfl) rfl) (fun _ _=>rfl)
def rW: ∀S,bC.rc S [.int .i64 0,.int .i64 0,.int .i64 0,.int .i64 0,.int .i64 0,.int .i64 0,.int .u64 0,.string ⟨#[]⟩] ((⟨(0:Int),(0:Int),(0:Int),(0:Int),(⟨(0:Int),(0:Int),(0:Int),[]⟩:am)⟩:ap)):=fun _=>⟨[.int .i64 0],[.int .i64 0,.int .i64 0,.int .i64 0,.int .i64 0,.int .i64 0,.int .u64 0,.string ⟨#[]⟩],rfl,rfl,⟨[.int .i64 0],[.int .i64 0,.int .i64 0,.int .i64 0,.int .i64 0,.int .u64 0,.string ⟨#[]⟩],rfl,rfl,⟨[.int .i64 0],[.int .i64 0,.int .i64 0,.int .i64 0,.int .u64 0,.string ⟨#[]⟩],rfl,rfl,⟨[.int .i64 0],[.int .i64 0,.int .i64 0,.int .u64 0,.string ⟨#[]⟩],rfl,rfl,mB _⟩⟩⟩⟩
structure aR where
 Nodes:(List ap)
 deriving DecidableEq,Inhabited
def cY:Rp aR:=rf (gE bC) (fun x=>(x.Nodes))
def lW:kP cY 0 (gE bC) (fun x=>x.Nodes):=bZ
def Nj:eD cY 0 (gE bC) (fun x y=>{x with Nodes:=y}):=bB ax (fun _ _=>rfl)
def sM: ∀S,cY.rc S [.slice none 0 0] ((⟨[]⟩:aR)):=fun _=>⟨none,0,rfl,dY _,oC _,.inl rfl⟩
structure fI where
 Tag:Int
 Arg:aR
 deriving DecidableEq,Inhabited
def fK:Rp fI:=rf (dD (rI .i64) cY) (fun x=>(x.Tag,x.Arg))
def lX:kP fK 0 (rI .i64) (fun x=>x.Tag):=(cZ bZ)
def O7:eD fK 0 (rI .i64) (fun x y=>{x with Tag:=y}):=bB cx (fun _ _=>rfl)
def q0:kP fK 1 cY (fun x=>x.Arg):=(aB bZ rfl)
def O6:eD fK 1 cY (fun x y=>{x with Arg:=y}):=bB (aw ax rfl) (fun _ _=>rfl)
def uC: ∀S,fK.rc S [.int .i64 0,.slice none 0 0] ((⟨(0:Int),(⟨[]⟩:aR)⟩:fI)):=fun _=>⟨[.int .i64 0],[.slice none 0 0],rfl,rfl,sM _⟩
structure aa where
 Op:Int
 A:Int
 B:Int
 Table:Int
 Kinds:(List Int)
 Left:Bool
 Cond:aR
 Keys:(List Int)
 Aggs:(List fI)
 Items:(List aR)
 Order:(List kF)
 Limit:Int
 deriving DecidableEq,Inhabited
def bl:Rp aa:=rf (dD (rI .i64) (dD (rI .i64) (dD (rI .i64) (dD (rI .i64) (dD (gE (rI .i64)) (dD rB (dD cY (dD (gE (rI .i64)) (dD (gE fK) (dD (gE cY) (dD (gE ia) (rI .i64)))))))))))) (fun x=>(x.Op,x.A,x.B,x.Table,x.Kinds,x.Left,x.Cond,x.Keys,x.Aggs,x.Items,x.Order,x.Limit))
def em:kP bl 0 (rI .i64) (fun x=>x.Op):=(cZ bZ)
def JZ:eD bl 0 (rI .i64) (fun x y=>{x with Op:=y}):=bB cx (fun _ _=>rfl)
def uX:kP bl 1 (rI .i64) (fun x=>x.A):=(cZ (aB bZ rfl))
def nt:eD bl 1 (rI .i64) (fun x y=>{x with A:=y}):=bB (aw cx rfl) (fun _ _=>rfl)
def yw:kP bl 2 (rI .i64) (fun x=>x.B):=(cZ (aB (aB bZ rfl) rfl))
def nr:eD bl 2 (rI .i64) (fun x y=>{x with B:=y}):=bB (aw (aw cx rfl) rfl) (fun _ _=>rfl)
def nH:kP bl 3 (rI .i64) (fun x=>x.Table):=(cZ (aB (aB (aB bZ rfl) rfl) rfl))
def JY:eD bl 3 (rI .i64) (fun x y=>{x with Table:=y}):=bB (aw (aw (aw cx rfl) rfl) rfl) (fun _ _=>rfl)
def jJ:kP bl 4 (gE (rI .i64)) (fun x=>x.Kinds):=(cZ (aB (aB (aB (aB bZ rfl) rfl) rfl) rfl))
def JX:eD bl 4 (gE (rI .i64)) (fun x y=>{x with Kinds:=y}):=bB (aw (aw (aw (aw cx rfl) rfl) rfl) rfl) (fun _ _=>rfl)
def uW:kP bl 5 rB (fun x=>x.Left):=(cZ (aB (aB (aB (aB (aB bZ rfl) rfl) rfl) rfl) rfl))
def JW:eD bl 5 rB (fun x y=>{x with Left:=y}):=bB (aw (aw (aw (aw (aw cx rfl) rfl) rfl) rfl) rfl) (fun _ _=>rfl)
def oY:kP bl 6 cY (fun x=>x.Cond):=(cZ (aB (aB (aB (aB (aB (aB bZ rfl) rfl) rfl) rfl) rfl) rfl))
def CH:eD bl 6 cY (fun x y=>{x with Cond:=y}):=bB (aw (aw (aw (aw (aw (aw cx rfl) rfl) rfl) rfl) rfl) rfl) (fun _ _=>rfl)
def iW:kP bl 7 (gE (rI .i64)) (fun x=>x.Keys):=(cZ (aB (aB (aB (aB (aB (aB (aB bZ rfl) rfl) rfl) rfl) rfl) rfl) rfl))
def JV:eD bl 7 (gE (rI .i64)) (fun x y=>{x with Keys:=y}):=bB (aw (aw (aw (aw (aw (aw (aw cx rfl) rfl) rfl) rfl) rfl) rfl) rfl) (fun _ _=>rfl)
def gL:kP bl 8 (gE fK) (fun x=>x.Aggs):=(cZ (aB (aB (aB (aB (aB (aB (aB (aB bZ rfl) rfl) rfl) rfl) rfl) rfl) rfl) rfl))
def JU:eD bl 8 (gE fK) (fun x y=>{x with Aggs:=y}):=bB (aw (aw (aw (aw (aw (aw (aw (aw cx rfl) rfl) rfl) rfl) rfl) rfl) rfl) rfl) (fun _ _=>rfl)
def qu:kP bl 9 (gE cY) (fun x=>x.Items):=(cZ (aB (aB (aB (aB (aB (aB (aB (aB (aB bZ rfl) rfl) rfl) rfl) rfl) rfl) rfl) rfl) rfl))
def JT:eD bl 9 (gE cY) (fun x y=>{x with Items:=y}):=bB (aw (aw (aw (aw (aw (aw (aw (aw (aw cx rfl) rfl) rfl) rfl) rfl) rfl) rfl) rfl) rfl) (fun _ _=>rfl)
def nI:kP bl 10 (gE ia) (fun x=>x.Order):=(cZ (aB (aB (aB (aB (aB (aB (aB (aB (aB (aB bZ rfl) rfl) rfl) rfl) rfl) rfl) rfl) rfl) rfl) rfl))
def HT:eD bl 10 (gE ia) (fun x y=>{x with Order:=y}):=bB (aw (aw (aw (aw (aw (aw (aw (aw (aw (aw cx rfl) rfl) rfl) rfl) rfl) rfl) rfl) rfl) rfl) rfl) (fun _ _=>rfl)
def po:kP bl 11 (rI .i64) (fun x=>x.Limit):=(aB (aB (aB (aB (aB (aB (aB (aB (aB (aB (aB bZ rfl) rfl) rfl) rfl) rfl) rfl) rfl) rfl) rfl) rfl) rfl)
def HS:eD bl 11 (rI .i64) (fun x y=>{x with Limit:=y}):=bB (aw (aw (aw (aw (aw (aw (aw (aw (aw (aw (aw ax rfl) rfl) rfl) rfl) rfl) rfl) rfl) rfl) rfl) rfl) rfl) (fun _ _=>rfl)
def kR: ∀S,bl.rc S [.int .i64 0,.int .i64 0,.int .i64 0,.int .i64 0,.slice none 0 0,.bool false,.slice none 0 0,.slice none 0 0,.slice none 0 0,.slice none 0 0,.slice none 0 0,.int .i64 0] ((⟨(0:Int),(0:Int),(0:Int),(0:Int),[],false,(⟨[]⟩:aR),[],[],[],[],(0:Int)⟩:aa)):=fun _=>⟨[.int .i64 0],[.int .i64 0,.int .i64 0,.int .i64 0,.slice none 0 0,.bool false,.slice none 0 0,.slice none 0 0,.slice none 0 0,.slice none 0 0,.slice none 0 0,.int .i64 0],rfl,rfl,⟨[.int .i64 0],[.int .i64 0,.int .i64 0,.slice none 0 0,.bool false,.slice none 0 0,.slice none 0 0,.slice none 0 0,.slice none 0 0,.slice none 0 0,.int .i64 0],rfl,rfl,⟨[.int .i64 0],[.int .i64 0,.slice none 0 0,.bool false,.slice none 0 0,.slice none 0 0,.slice none 0 0,.slice none 0 0,.slice none 0 0,.int .i64 0],rfl,rfl,⟨[.int .i64 0],[.slice none 0 0,.bool false,.slice none 0 0,.slice none 0 0,.slice none 0 0,.slice none 0 0,.slice none 0 0,.int .i64 0],rfl,rfl,⟨[.slice none 0 0],[.bool false,.slice none 0 0,.slice none 0 0,.slice none 0 0,.slice none 0 0,.slice none 0 0,.int .i64 0],rfl,⟨none,0,rfl,dY _,oC _,.inl rfl⟩,⟨[.bool false],[.slice none 0 0,.slice none 0 0,.slice none 0 0,.slice none 0 0,.slice none 0 0,.int .i64 0],rfl,rfl,⟨[.slice none 0 0],[.slice none 0 0,.slice none 0 0,.slice none 0 0,.slice none 0 0,.int .i64 0],rfl,sM _,⟨[.slice none 0 0],[.slice none 0 0,.slice none 0 0,.slice none 0 0,.int .i64 0],rfl,⟨none,0,rfl,dY _,oC _,.inl rfl⟩,⟨[.slice none 0 0],[.slice none 0 0,.slice none 0 0,.int .i64 0],rfl,⟨none,0,rfl,dY _,oC _,.inl rfl⟩,⟨[.slice none 0 0],[.slice none 0 0,.int .i64 0],rfl,⟨none,0,rfl,dY _,oC _,.inl rfl⟩,⟨[.slice none 0 0],[.int .i64 0],rfl,⟨none,0,rfl,dY _,oC _,.inl rfl⟩,rfl⟩⟩⟩⟩⟩⟩⟩⟩⟩⟩⟩
structure dC where
 Nodes:(List aa)
 At:Int
 Way:Int
 Cols:(List Int)
 deriving DecidableEq,Inhabited
def cG:Rp dC:=rf (dD (gE bl) (dD (rI .i64) (dD (rI .i64) (gE (rI .i64))))) (fun x=>(x.Nodes,x.At,x.Way,x.Cols))
def uk:kP cG 0 (gE bl) (fun x=>x.Nodes):=(cZ bZ)
def Ni:eD cG 0 (gE bl) (fun x y=>{x with Nodes:=y}):=bB cx (fun _ _=>rfl)
def uj:kP cG 1 (rI .i64) (fun x=>x.At):=(cZ (aB bZ rfl))
def EZ:eD cG 1 (rI .i64) (fun x y=>{x with At:=y}):=bB (aw cx rfl) (fun _ _=>rfl)
def ui:kP cG 2 (rI .i64) (fun x=>x.Way):=(cZ (aB (aB bZ rfl) rfl))
def EY:eD cG 2 (rI .i64) (fun x y=>{x with Way:=y}):=bB (aw (aw cx rfl) rfl) (fun _ _=>rfl)
def uh:kP cG 3 (gE (rI .i64)) (fun x=>x.Cols):=(aB (aB (aB bZ rfl) rfl) rfl)
def EX:eD cG 3 (gE (rI .i64)) (fun x y=>{x with Cols:=y}):=bB (aw (aw (aw ax rfl) rfl) rfl) (fun _ _=>rfl)
def pz: ∀S,cG.rc S [.slice none 0 0,.int .i64 0,.int .i64 0,.slice none 0 0] ((⟨[],(0:Int),(0:Int),[]⟩:dC)):=fun _=>⟨[.slice none 0 0],[.int .i64 0,.int .i64 0,.slice none 0 0],rfl,⟨none,0,rfl,dY _,oC _,.inl rfl⟩,⟨[.int .i64 0],[.int .i64 0,.slice none 0 0],rfl,rfl,⟨[.int .i64 0],[.slice none 0 0],rfl,rfl,⟨none,0,rfl,dY _,oC _,.inl rfl⟩⟩⟩⟩
structure da where
 Frags:(List dC)
 deriving DecidableEq,Inhabited
def m3:Rp da:=rf (gE cG) (fun x=>(x.Frags))
def qt:kP m3 0 (gE cG) (fun x=>x.Frags):=bZ
def Nh:eD m3 0 (gE cG) (fun x y=>{x with Frags:=y}):=bB ax (fun _ _=>rfl)
def BE: ∀S,m3.rc S [.slice none 0 0] ((⟨[]⟩:da)):=fun _=>⟨none,0,rfl,dY _,oC _,.inl rfl⟩
structure ci where
 Kind:Int
 From:Int
 To:Int
 Epoch:Int
 Frag:Int
 Sites:Int
 Plan:da
 Packet:aO
 Err:Int
 deriving DecidableEq,Inhabited
def fQ:Rp ci:=rf (dD (rI .i64) (dD (rI .i64) (dD (rI .i64) (dD (rI .i64) (dD (rI .i64) (dD (rI .i64) (dD m3 (dD cu (rI .i64))))))))) (fun x=>(x.Kind,x.From,x.To,x.Epoch,x.Frag,x.Sites,x.Plan,x.Packet,x.Err))
def qZ:kP fQ 0 (rI .i64) (fun x=>x.Kind):=(cZ bZ)
def CF:eD fQ 0 (rI .i64) (fun x y=>{x with Kind:=y}):=bB cx (fun _ _=>rfl)
def zz:kP fQ 1 (rI .i64) (fun x=>x.From):=(cZ (aB bZ rfl))
def CE:eD fQ 1 (rI .i64) (fun x y=>{x with From:=y}):=bB (aw cx rfl) (fun _ _=>rfl)
def zy:kP fQ 2 (rI .i64) (fun x=>x.To):=(cZ (aB (aB bZ rfl) rfl))
def HR:eD fQ 2 (rI .i64) (fun x y=>{x with To:=y}):=bB (aw (aw cx rfl) rfl) (fun _ _=>rfl)
def wx:kP fQ 3 (rI .i64) (fun x=>x.Epoch):=(cZ (aB (aB (aB bZ rfl) rfl) rfl))
def CD:eD fQ 3 (rI .i64) (fun x y=>{x with Epoch:=y}):=bB (aw (aw (aw cx rfl) rfl) rfl) (fun _ _=>rfl)
def ww:kP fQ 4 (rI .i64) (fun x=>x.Frag):=(cZ (aB (aB (aB (aB bZ rfl) rfl) rfl) rfl))
def CC:eD fQ 4 (rI .i64) (fun x y=>{x with Frag:=y}):=bB (aw (aw (aw (aw cx rfl) rfl) rfl) rfl) (fun _ _=>rfl)
def wv:kP fQ 5 (rI .i64) (fun x=>x.Sites):=(cZ (aB (aB (aB (aB (aB bZ rfl) rfl) rfl) rfl) rfl))
def HQ:eD fQ 5 (rI .i64) (fun x y=>{x with Sites:=y}):=bB (aw (aw (aw (aw (aw cx rfl) rfl) rfl) rfl) rfl) (fun _ _=>rfl)
def zx:kP fQ 6 m3 (fun x=>x.Plan):=(cZ (aB (aB (aB (aB (aB (aB bZ rfl) rfl) rfl) rfl) rfl) rfl))
def HP:eD fQ 6 m3 (fun x y=>{x with Plan:=y}):=bB (aw (aw (aw (aw (aw (aw cx rfl) rfl) rfl) rfl) rfl) rfl) (fun _ _=>rfl)
def wu:kP fQ 7 cu (fun x=>x.Packet):=(cZ (aB (aB (aB (aB (aB (aB (aB bZ rfl) rfl) rfl) rfl) rfl) rfl) rfl))
def CB:eD fQ 7 cu (fun x y=>{x with Packet:=y}):=bB (aw (aw (aw (aw (aw (aw (aw cx rfl) rfl) rfl) rfl) rfl) rfl) rfl) (fun _ _=>rfl)
def wt:kP fQ 14 (rI .i64) (fun x=>x.Err):=(aB (aB (aB (aB (aB (aB (aB (aB bZ rfl) rfl) rfl) rfl) rfl) rfl) rfl) rfl)
def CA:eD fQ 14 (rI .i64) (fun x y=>{x with Err:=y}):=bB (aw (aw (aw (aw (aw (aw (aw (aw ax rfl) rfl) rfl) rfl) rfl) rfl) rfl) rfl) (fun _ _=>rfl)
def py: ∀S,fQ.rc S [.int .i64 0,.int .i64 0,.int .i64 0,.int .i64 0,.int .i64 0,.int .i64 0,.slice none 0 0,.int .i64 0,.int .u32 0,.int .u64 0,.int .u64 0,.slice none 0 0,.bool false,.int .u64 0,.int .i64 0] ((⟨(0:Int),(0:Int),(0:Int),(0:Int),(0:Int),(0:Int),(⟨[]⟩:da),(⟨(0:Int),(0:Int),(0:Int),(0:Int),(⟨[],false,(0:Int)⟩:bH)⟩:aO),(0:Int)⟩:ci)):=fun _=>⟨[.int .i64 0],[.int .i64 0,.int .i64 0,.int .i64 0,.int .i64 0,.int .i64 0,.slice none 0 0,.int .i64 0,.int .u32 0,.int .u64 0,.int .u64 0,.slice none 0 0,.bool false,.int .u64 0,.int .i64 0],rfl,rfl,⟨[.int .i64 0],[.int .i64 0,.int .i64 0,.int .i64 0,.int .i64 0,.slice none 0 0,.int .i64 0,.int .u32 0,.int .u64 0,.int .u64 0,.slice none 0 0,.bool false,.int .u64 0,.int .i64 0],rfl,rfl,⟨[.int .i64 0],[.int .i64 0,.int .i64 0,.int .i64 0,.slice none 0 0,.int .i64 0,.int .u32 0,.int .u64 0,.int .u64 0,.slice none 0 0,.bool false,.int .u64 0,.int .i64 0],rfl,rfl,⟨[.int .i64 0],[.int .i64 0,.int .i64 0,.slice none 0 0,.int .i64 0,.int .u32 0,.int .u64 0,.int .u64 0,.slice none 0 0,.bool false,.int .u64 0,.int .i64 0],rfl,rfl,⟨[.int .i64 0],[.int .i64 0,.slice none 0 0,.int .i64 0,.int .u32 0,.int .u64 0,.int .u64 0,.slice none 0 0,.bool false,.int .u64 0,.int .i64 0],rfl,rfl,⟨[.int .i64 0],[.slice none 0 0,.int .i64 0,.int .u32 0,.int .u64 0,.int .u64 0,.slice none 0 0,.bool false,.int .u64 0,.int .i64 0],rfl,rfl,⟨[.slice none 0 0],[.int .i64 0,.int .u32 0,.int .u64 0,.int .u64 0,.slice none 0 0,.bool false,.int .u64 0,.int .i64 0],rfl,BE _,⟨[.int .i64 0,.int .u32 0,.int .u64 0,.int .u64 0,.slice none 0 0,.bool false,.int .u64 0],[.int .i64 0],rfl,o5 _,rfl⟩⟩⟩⟩⟩⟩⟩⟩
structure al where
 nodes:(List aa)
 kinds:(List (List Int))
 open_:(List Int)
 n:aa
 a_:(List Int)
 b:(List Int)
 result:(List Int)
 deriving DecidableEq,Inhabited
def br:Rp al:=rf (dD (gE bl) (dD (gE (gE (rI .i64))) (dD (Np:Rp (List Int)) (dD bl (dD (gE (rI .i64)) (dD (gE (rI .i64)) (gE (rI .i64)))))))) (fun x=>(x.nodes,x.kinds,x.open_,x.n,x.a_,x.b,x.result))
def AA:kP br 0 (gE bl) (fun x=>x.nodes):=(cZ bZ)
def Ng:eD br 0 (gE bl) (fun x y=>{x with nodes:=y}):=bB cx (fun _ _=>rfl)
def Nf:eD br 1 (gE (gE (rI .i64))) (fun x y=>{x with kinds:=y}):=bB (aw cx rfl) (fun _ _=>rfl)
def Nc:eD br 2 (Np:Rp (List Int)) (fun x y=>{x with open_:=y}):=bB (aw (aw cx rfl) rfl) (fun _ _=>rfl)
def fh:kP br 3 bl (fun x=>x.n):=(cZ (aB (aB (aB bZ rfl) rfl) rfl))
def Nb:eD br 3 bl (fun x y=>{x with n:=y}):=bB (aw (aw (aw cx rfl) rfl) rfl) (fun _ _=>rfl)
def od:kP br 15 (gE (rI .i64)) (fun x=>x.a_):=(cZ (aB (aB (aB (aB bZ rfl) rfl) rfl) rfl))
def EW:eD br 15 (gE (rI .i64)) (fun x y=>{x with a_:=y}):=bB (aw (aw (aw (aw cx rfl) rfl) rfl) rfl) (fun _ _=>rfl)
def Fm:kP br 16 (gE (rI .i64)) (fun x=>x.b):=(cZ (aB (aB (aB (aB (aB bZ rfl) rfl) rfl) rfl) rfl))
def EV:eD br 16 (gE (rI .i64)) (fun x y=>{x with b:=y}):=bB (aw (aw (aw (aw (aw cx rfl) rfl) rfl) rfl) rfl) (fun _ _=>rfl)
def Az:kP br 17 (gE (rI .i64)) (fun x=>x.result):=(aB (aB (aB (aB (aB (aB bZ rfl) rfl) rfl) rfl) rfl) rfl)
def rG:eD br 17 (gE (rI .i64)) (fun x y=>{x with result:=y}):=bB (aw (aw (aw (aw (aw (aw ax rfl) rfl) rfl) rfl) rfl) rfl) (fun _ _=>rfl)
def Q9: ∀S,br.rc S [.slice none 0 0,.slice none 0 0,.slice none 0 0,.int .i64 0,.int .i64 0,.int .i64 0,.int .i64 0,.slice none 0 0,.bool false,.slice none 0 0,.slice none 0 0,.slice none 0 0,.slice none 0 0,.slice none 0 0,.int .i64 0,.slice none 0 0,.slice none 0 0,.slice none 0 0] ((⟨[],[],[],(⟨(0:Int),(0:Int),(0:Int),(0:Int),[],false,(⟨[]⟩:aR),[],[],[],[],(0:Int)⟩:aa),[],[],[]⟩:al)):=fun _=>⟨[.slice none 0 0],[.slice none 0 0,.slice none 0 0,.int .i64 0,.int .i64 0,.int .i64 0,.int .i64 0,.slice none 0 0,.bool false,.slice none 0 0,.slice none 0 0,.slice none 0 0,.slice none 0 0,.slice none 0 0,.int .i64 0,.slice none 0 0,.slice none 0 0,.slice none 0 0],rfl,⟨none,0,rfl,dY _,oC _,.inl rfl⟩,⟨[.slice none 0 0],[.slice none 0 0,.int .i64 0,.int .i64 0,.int .i64 0,.int .i64 0,.slice none 0 0,.bool false,.slice none 0 0,.slice none 0 0,.slice none 0 0,.slice none 0 0,.slice none 0 0,.int .i64 0,.slice none 0 0,.slice none 0 0,.slice none 0 0],rfl,⟨none,0,rfl,dY _,oC _,.inl rfl⟩,⟨[.slice none 0 0],[.int .i64 0,.int .i64 0,.int .i64 0,.int .i64 0,.slice none 0 0,.bool false,.slice none 0 0,.slice none 0 0,.slice none 0 0,.slice none 0 0,.slice none 0 0,.int .i64 0,.slice none 0 0,.slice none 0 0,.slice none 0 0],rfl,⟨_,rfl,rfl⟩,⟨[.int .i64 0,.int .i64 0,.int .i64 0,.int .i64 0,.slice none 0 0,.bool false,.slice none 0 0,.slice none 0 0,.slice none 0 0,.slice none 0 0,.slice none 0 0,.int .i64 0],[.slice none 0 0,.slice none 0 0,.slice none 0 0],rfl,kR _,⟨[.slice none 0 0],[.slice none 0 0,.slice none 0 0],rfl,⟨none,0,rfl,dY _,oC _,.inl rfl⟩,⟨[.slice none 0 0],[.slice none 0 0],rfl,⟨none,0,rfl,dY _,oC _,.inl rfl⟩,⟨none,0,rfl,dY _,oC _,.inl rfl⟩⟩⟩⟩⟩⟩⟩
structure aP where
 bytes:(List Int)
 deriving DecidableEq,Inhabited
def cQ:Rp aP:=rf (gE (rI .u8)) (fun x=>(x.bytes))
def mi:eD cQ 0 (gE (rI .u8)) (fun x y=>{x with bytes:=y}):=bB ax (fun _ _=>rfl)
def MP: ∀S,cQ.rc S [.slice none 0 0] ((⟨[]⟩:aP)):=fun _=>⟨none,0,rfl,dY _,oC _,.inl rfl⟩
structure gO where
 Nodes:(List aa)
 deriving DecidableEq,Inhabited
structure lq where
 at_:Int
 why:Int
 deriving DecidableEq,Inhabited
def pF:Rp lq:=rf (dD (rI .i64) (rI .i64)) (fun x=>(x.at_,x.why))
def sq:kP pF 0 (rI .i64) (fun x=>x.at_):=(cZ bZ)
def Cx:eD pF 0 (rI .i64) (fun x y=>{x with at_:=y}):=bB cx (fun _ _=>rfl)
def yv:kP pF 1 (rI .i64) (fun x=>x.why):=(aB bZ rfl)
def uI:eD pF 1 (rI .i64) (fun x y=>{x with why:=y}):=bB (aw ax rfl) (fun _ _=>rfl)
def OA: ∀S,pF.rc S [.int .i64 0,.int .i64 0] ((⟨(0:Int),(0:Int)⟩:lq)):=fun _=>⟨[.int .i64 0],[.int .i64 0],rfl,rfl,rfl⟩
structure ae where
 place:lq
 own:(List Int)
 deriving DecidableEq,Inhabited
def gV:Rp ae:=rf (dD pF (gE (rI .u8))) (fun x=>(x.place,x.own))
def gk:kP gV 0 pF (fun x=>x.place):=(cZ bZ)
def o7:eD gV 0 pF (fun x y=>{x with place:=y}):=bB cx (fun _ _=>rfl)
def wr:kP gV 2 (gE (rI .u8)) (fun x=>x.own):=(aB bZ rfl)
structure aJ where
 Reader:ae
 all:(List Int)
 bad:Bool
 deriving DecidableEq,Inhabited
def aj:Rp aJ:=rf (dD (Np:Rp ae) (dD (gE (rI .u8)) rB)) (fun x=>(x.Reader,x.all,x.bad))
def s9:kP aj 1 (gE (rI .u8)) (fun x=>x.all):=(cZ (aB bZ rfl))
def s8:kP aj 2 rB (fun x=>x.bad):=(aB (aB bZ rfl) rfl)
def sU:eD aj 2 rB (fun x y=>{x with bad:=y}):=bB (aw (aw ax rfl) rfl) (fun _ _=>rfl)
structure cy where
 Reader:ae
 all:Int
 bad:Bool
 deriving DecidableEq,Inhabited
def bE:Rp cy:=rf (dD (Np:Rp ae) (dD (rI .i64) rB)) (fun x=>(x.Reader,x.all,x.bad))
def sn:kP bE 1 (rI .i64) (fun x=>x.all):=(cZ (aB bZ rfl))
def uU:kP bE 2 rB (fun x=>x.bad):=(aB (aB bZ rfl) rfl)
def Cw:eD bE 2 rB (fun x y=>{x with bad:=y}):=bB (aw (aw ax rfl) rfl) (fun _ _=>rfl)
structure Zh where
 Bytes:(List Int)
 At:Int
 Bad:Bool
 deriving DecidableEq,Inhabited
structure Zf where
 Nodes:Value
 At:Int
 Way:Int
 Cols:(List Int)
structure Zg where
 Nodes:Value
structure TV where
 Op:Int
 A:Int
 B:Int
 Table:Int
 Kinds:(List Int)
 Left:Bool
 Cond:aR
 Keys:(List Int)
 Aggs:Value
 Items:(List aR)
 Order:Value
 Limit:Int
structure YT where
 Op:Int
 A:Int
 B:Int
 Table:Int
 Kinds:(List Int)
 Left:Bool
 Cond:aR
 Keys:(List Int)
 Aggs:(List fI)
 Items:Value
 Order:(List kF)
 Limit:Int
structure YS where
 Nodes:Value
structure FD where
 Reader:Value
 all:(List Int)
 bad:Bool
def qT:Rp FD:=rf (dD rV (dD (gE (rI .u8)) rB)) (fun x=>(x.Reader,x.all,x.bad))
def D6:eD qT 0 rV (fun x y=>{x with Reader:=y}):=bB cx (fun _ _=>rfl)
def D5:eD qT 1 (gE (rI .u8)) (fun x y=>{x with all:=y}):=bB (aw cx rfl) (fun _ _=>rfl)
def wl(y:aJ)(v0:Value):FD:=⟨v0,y.all,y.bad⟩
def Hl: ∀S,qT.rc S [.pointer none,.slice none 0 0,.bool false] (wl ((⟨(⟨(⟨(0:Int),(0:Int)⟩:lq),[]⟩:ae),[],false⟩:aJ)) (.pointer none)):=fun _=>⟨[.pointer none],[.slice none 0 0,.bool false],rfl,⟨rfl,rfl⟩,⟨[.slice none 0 0],[.bool false],rfl,⟨none,0,rfl,dY _,oC _,.inl rfl⟩,rfl⟩⟩
structure MJ where
 nodes:(List aa)
 kinds:(List (List Int))
 open_:(List Int)
 n:aa
 a_:(List Int)
 b:(List Int)
 result:Value
def cg:Rp MJ:=rf (dD (gE bl) (dD (gE (gE (rI .i64))) (dD (Np:Rp (List Int)) (dD bl (dD (gE (rI .i64)) (dD (gE (rI .i64)) rV)))))) (fun x=>(x.nodes,x.kinds,x.open_,x.n,x.a_,x.b,x.result))
def wq:kP cg 3 bl (fun x=>x.n):=(cZ (aB (aB (aB bZ rfl) rfl) rfl))
def j7:kP cg 15 (gE (rI .i64)) (fun x=>x.a_):=(cZ (aB (aB (aB (aB bZ rfl) rfl) rfl) rfl))
def IQ:kP cg 16 (gE (rI .i64)) (fun x=>x.b):=(cZ (aB (aB (aB (aB (aB bZ rfl) rfl) rfl) rfl) rfl))
def la:kP cg 17 rV (fun x=>x.result):=(aB (aB (aB (aB (aB (aB bZ rfl) rfl) rfl) rfl) rfl) rfl)
def cz(y:al)(v6:Value):MJ:=⟨y.nodes,y.kinds,y.open_,y.n,y.a_,y.b,v6⟩
structure FE where
 place:lq
 own:Value
def o8:Rp FE:=rf (dD pF rV) (fun x=>(x.place,x.own))
def Er:kP o8 2 rV (fun x=>x.own):=(aB bZ rfl)
def D7:eD o8 2 rV (fun x y=>{x with own:=y}):=bB (aw ax rfl) (fun _ _=>rfl)
def s3(y:ae)(v1:Value):FE:=⟨y.place,v1⟩
def Hm: ∀S,o8.rc S [.int .i64 0,.int .i64 0,.slice none 0 0] (s3 ((⟨(⟨(0:Int),(0:Int)⟩:lq),[]⟩:ae)) (au none 0 0)):=fun _=>⟨[.int .i64 0,.int .i64 0],[.slice none 0 0],rfl,OA _,⟨rfl,rfl⟩⟩
structure Jh where
 Reader:Value
 all:Int
 bad:Bool
def sd:Rp Jh:=rf (dD rV (dD (rI .i64) rB)) (fun x=>(x.Reader,x.all,x.bad))
def F7:eD sd 0 rV (fun x y=>{x with Reader:=y}):=bB cx (fun _ _=>rfl)
def F6:eD sd 1 (rI .i64) (fun x y=>{x with all:=y}):=bB (aw cx rfl) (fun _ _=>rfl)
def yn(y:cy)(v0:Value):Jh:=⟨v0,y.all,y.bad⟩
def Jx: ∀S,sd.rc S [.pointer none,.int .i64 0,.bool false] (yn ((⟨(⟨(⟨(0:Int),(0:Int)⟩:lq),[]⟩:ae),(0:Int),false⟩:cy)) (.pointer none)):=fun _=>⟨[.pointer none],[.int .i64 0,.bool false],rfl,⟨rfl,rfl⟩,⟨[.int .i64 0],[.bool false],rfl,rfl,rfl⟩⟩
def iq{S:SH}{cs:List Value}{y:al}{v6:Value}{xs6:(List Int)}(k6:(gE (rI .i64)).rc S [v6] xs6)(h:cg.rc S cs (cz y v6)):br.rc S cs ((⟨y.nodes,y.kinds,y.open_,y.n,y.a_,y.b,xs6⟩:al)):=by
 obtain⟨a0,b0,e0,h0,a1,b1,e1,Y,a2,b2,e2,H,a3,b3,e3,s,a4,b4,e4,h4,a5,b5,e5,h5,h6⟩:=h
 exact⟨a0,b0,e0,h0,a1,b1,e1,Y,a2,b2,e2,H,a3,b3,e3,s,a4,b4,e4,h4,a5,b5,e5,h5,(by rw [h6.1];exact k6)⟩
def AJ{S:SH}{cs:List Value}{y:ae}{v1:Value}{xs1:(List Int)}(k1:(gE (rI .u8)).rc S [v1] xs1)(h:o8.rc S cs (s3 y v1)):gV.rc S cs ((⟨y.place,xs1⟩:ae)):=by
 obtain⟨a0,b0,e0,h0,Y⟩:=h
 exact⟨a0,b0,e0,h0,(by rw [Y.1];exact k1)⟩
def kV(y:al)(v:Value):ur br cg 17 rV (y) v (cz y v):=LI (oM (oM (oM (oM (oM (oM (Al rfl) rfl) rfl) rfl) rfl) rfl) rfl) rfl
def iw(y:al)(u:Value)(v:Value):ur cg cg 17 rV (cz y u) v (cz y v):=LI (oM (oM (oM (oM (oM (oM (Al rfl) rfl) rfl) rfl) rfl) rfl) rfl) rfl
def ei(b:Nat)(x:al)(i:OI):List OE:=[Z (rH br [(1,au (i.h 0).1 (i.h 0).2 x.kinds.length),(2,au (i.h 1).1 (i.h 1).2 x.open_.length)]) 168 b x,tip (gE (rI .i64)) 69 (i.h 0).1 (i.h 0).2 x.kinds,de (rI .i64) 3 (i.h 1).1 (i.h 1).2 x.open_]
def eP(b:Nat)(x:aP)(i:OI):List OE:=[Z (rH cQ [(0,au (i.h 0).1 (i.h 0).2 x.bytes.length)]) 60 b x,tip (rI .u8) 5 (i.h 0).1 (i.h 0).2 x.bytes]
def UE(b:Nat)(x:al)(i:OI):List OE:=[Z (rH cg [(1,au (i.h 0).1 (i.h 0).2 x.kinds.length),(2,au (i.h 1).1 (i.h 1).2 x.open_.length)]) 168 b (cz x (au (i.h 2).1 (i.h 2).2 x.result.length)),tip (gE (rI .i64)) 69 (i.h 0).1 (i.h 0).2 x.kinds,de (rI .i64) 3 (i.h 1).1 (i.h 1).2 x.open_,de (rI .i64) 3 (i.h 2).1 (i.h 2).2 x.result]
def Xm{S:SH}{cs:List Value}{y:aJ}{v:Value}(h:qT.rc S cs (wl y v)):(rH aj [(0,v)]).rc S cs y:=by
 obtain⟨a0,b0,e0,h0,a1,b1,e1,Y,H⟩:=h
 refine⟨⟨a0,b0,e0,⟨v,h0.1,h0.2⟩,a1,b1,e1,Y,H⟩,fun p hp=>?_⟩
 simp at hp
 subst hp
 rw [e0,h0.1]
 rfl
def Xl{S:SH}{cs:List Value}{y:cy}{v:Value}(h:sd.rc S cs (yn y v)):(rH bE [(0,v)]).rc S cs y:=by
 obtain⟨a0,b0,e0,h0,a1,b1,e1,Y,H⟩:=h
 refine⟨⟨a0,b0,e0,⟨v,h0.1,h0.2⟩,a1,b1,e1,Y,H⟩,fun p hp=>?_⟩
 simp at hp
 subst hp
 rw [e0,h0.1]
 rfl

end Go.Proofs.YtdohlidddcgfjaaGreat

