/- cT of this claim: D. -/
import Derived.Test.YtdohlidddcgfjaaGreatFaV3
set_option linter.all false
namespace Go.Proofs.YtdohlidddcgfjaaGreat
open Go

structure aF where
 Kind:Int
 N:Int
 U:Int
 S:Ky
 deriving DecidableEq,Inhabited
def bF:Rp aF:=ne (ci (rI .i64) (ci (rI .i64) (ci (rI .u64) rS))) (fun x=>(x.Kind,x.N,x.U,x.S))
theorem jB:lK bF 0 (rI .i64) (fun x=>x.Kind):=(dq cn)
theorem xi:km bF 0 (rI .i64) (fun x y=>{x with Kind:=y}):=dS eM (fun _ _=>rfl)
theorem jA:lK bF 1 (rI .i64) (fun x=>x.N):=(dq (aE cn rfl))
theorem A3:km bF 1 (rI .i64) (fun x y=>{x with N:=y}):=dS (bB eM rfl) (fun _ _=>rfl)
theorem ql:lK bF 2 (rI .u64) (fun x=>x.U):=(dq (aE (aE cn rfl) rfl))
theorem Hl:km bF 2 (rI .u64) (fun x y=>{x with U:=y}):=dS (bB (bB eM rfl) rfl) (fun _ _=>rfl)
theorem jz:lK bF 3 rS (fun x=>x.S):=(aE (aE (aE cn rfl) rfl) rfl)
theorem Hk:km bF 3 rS (fun x y=>{x with S:=y}):=dS (bB (bB (bB aY rfl) rfl) rfl) (fun _ _=>rfl)
theorem ni: ∀S,bF.rc S [.int .i64 0,.int .i64 0,.int .u64 0,.string ⟨#[]⟩] ((⟨(0:Int),(0:Int),(0:Int),[]⟩:aF)):=fun _=>⟨[.int .i64 0],[.int .i64 0,.int .u64 0,.string ⟨#[]⟩],rfl,rfl,⟨[.int .i64 0],[.int .u64 0,.string ⟨#[]⟩],rfl,rfl,⟨[.int .u64 0],[.string ⟨#[]⟩],rfl,rfl,rfl⟩⟩⟩
structure dH where
 Rows:(List (List aF))
 End:Bool
 Count:Int
 deriving DecidableEq,Inhabited
def lv:Rp dH:=ne (ci (gB (gB bF)) (ci rB (rI .u64))) (fun x=>(x.Rows,x.End,x.Count))
theorem ic:lK lv 0 (gB (gB bF)) (fun x=>x.Rows):=(dq cn)
theorem iG:lK lv 1 rB (fun x=>x.End):=(dq (aE cn rfl))
theorem iF:lK lv 2 (rI .u64) (fun x=>x.Count):=(aE (aE cn rfl) rfl)
theorem E6: ∀S,lv.rc S [.slice none 0 0,.bool false,.int .u64 0] ((⟨[],false,(0:Int)⟩:dH)):=fun _=>⟨[.slice none 0 0],[.bool false,.int .u64 0],rfl,⟨none,0,rfl,eE _,nU _,.inl rfl⟩,⟨[.bool false],[.int .u64 0],rfl,rfl,rfl⟩⟩
structure co where
 Kind:Int
 Session:Int
 Seq:Int
 Limit:Int
 Batch:dH
 deriving DecidableEq,Inhabited
def eU:Rp co:=ne (ci (rI .i64) (ci (rI .u32) (ci (rI .u64) (ci (rI .u64) lv)))) (fun x=>(x.Kind,x.Session,x.Seq,x.Limit,x.Batch))
theorem kT:lK eU 0 (rI .i64) (fun x=>x.Kind):=(dq cn)
theorem kS:lK eU 1 (rI .u32) (fun x=>x.Session):=(dq (aE cn rfl))
theorem f6:lK eU 2 (rI .u64) (fun x=>x.Seq):=(dq (aE (aE cn rfl) rfl))
theorem ir:lK eU 3 (rI .u64) (fun x=>x.Limit):=(dq (aE (aE (aE cn rfl) rfl) rfl))
theorem cU:lK eU 4 lv (fun x=>x.Batch):=(aE (aE (aE (aE cn rfl) rfl) rfl) rfl)
theorem yW: ∀S,eU.rc S [.int .i64 0,.int .u32 0,.int .u64 0,.int .u64 0,.slice none 0 0,.bool false,.int .u64 0] ((⟨(0:Int),(0:Int),(0:Int),(0:Int),(⟨[],false,(0:Int)⟩:dH)⟩:co)):=fun _=>⟨[.int .i64 0],[.int .u32 0,.int .u64 0,.int .u64 0,.slice none 0 0,.bool false,.int .u64 0],rfl,rfl,⟨[.int .u32 0],[.int .u64 0,.int .u64 0,.slice none 0 0,.bool false,.int .u64 0],rfl,rfl,⟨[.int .u64 0],[.int .u64 0,.slice none 0 0,.bool false,.int .u64 0],rfl,rfl,⟨[.int .u64 0],[.slice none 0 0,.bool false,.int .u64 0],rfl,rfl,E6 _⟩⟩⟩⟩
structure kq where
 Col:Int
 Desc:Bool
 deriving DecidableEq,Inhabited
def iY:Rp kq:=ne (ci (rI .i64) rB) (fun x=>(x.Col,x.Desc))
theorem sh:lK iY 0 (rI .i64) (fun x=>x.Col):=(dq cn)
theorem BG:lK iY 1 rB (fun x=>x.Desc):=(aE cn rfl)
theorem PT: ∀S,iY.rc S [.int .i64 0,.bool false] ((⟨(0:Int),false⟩:kq)):=fun _=>⟨[.int .i64 0],[.bool false],rfl,rfl,rfl⟩
structure bC where
 Tag:Int
 L:Int
 R:Int
 Col:Int
 Value:aF
 deriving DecidableEq,Inhabited
def bG:Rp bC:=ne (ci (rI .i64) (ci (rI .i64) (ci (rI .i64) (ci (rI .i64) bF)))) (fun x=>(x.Tag,x.L,x.R,x.Col,x.Value))
theorem eo:lK bG 0 (rI .i64) (fun x=>x.Tag):=(dq cn)
theorem Ba:km bG 0 (rI .i64) (fun x y=>{x with Tag:=y}):=dS eM (fun _ _=>rfl)
theorem nR:lK bG 1 (rI .i64) (fun x=>x.L):=(dq (aE cn rfl))
theorem xk:km bG 1 (rI .i64) (fun x y=>{x with L:=y}):=dS (bB eM rfl) (fun _ _=>rfl)
theorem mb:lK bG 2 (rI .i64) (fun x=>x.R):=(dq (aE (aE cn rfl) rfl))
theorem xj:km bG 2 (rI .i64) (fun x y=>{x with R:=y}):=dS (bB (bB eM rfl) rfl) (fun _ _=>rfl)
theorem gO:lK bG 3 (rI .i64) (fun x=>x.Col):=(dq (aE (aE (aE cn rfl) rfl) rfl))
theorem Hn:km bG 3 (rI .i64) (fun x y=>{x with Col:=y}):=dS (bB (bB (bB eM rfl) rfl) rfl) (fun _ _=>rfl)
theorem jC:lK bG 4 bF (fun x=>x.Value):=(aE (aE (aE (aE cn rfl) rfl) rfl) rfl)
theorem lp: ∀S,bG.rc S [.int .i64 0,.int .i64 0,.int .i64 0,.int .i64 0,.int .i64 0,.int .i64 0,.int .u64 0,.string ⟨#[]⟩] ((⟨(0:Int),(0:Int),(0:Int),(0:Int),(⟨(0:Int),(0:Int),(0:Int),[]⟩:aF)⟩:bC)):=fun _=>⟨[.int .i64 0],[.int .i64 0,.int .i64 0,.int .i64 0,.int .i64 0,.int .i64 0,.int .u64 0,.string ⟨#[]⟩],rfl,rfl,⟨[.int .i64 0],[.int .i64 0,.int .i64 0,.int .i64 0,.int .i64 0,.int .u64 0,.string ⟨#[]⟩],rfl,rfl,⟨[.int .i64 0],[.int .i64 0,.int .i64 0,.int .i64 0,.int .u64 0,.string ⟨#[]⟩],rfl,rfl,⟨[.int .i64 0],[.int .i64 0,.int .i64 0,.int .u64 0,.string ⟨#[]⟩],rfl,rfl,ni _⟩⟩⟩⟩
structure bv where
 Nodes:(List bC)
 deriving DecidableEq,Inhabited
def bL:Rp bv:=ne (gB bG) (fun x=>(x.Nodes))
theorem di:lK bL 0 (gB bG) (fun x=>x.Nodes):=cn
theorem qx: ∀S,bL.rc S [.slice none 0 0] ((⟨[]⟩:bv)):=fun _=>⟨none,0,rfl,eE _,nU _,.inl rfl⟩
structure fy where
 Tag:Int
 Arg:bv
 deriving DecidableEq,Inhabited
def eQ:Rp fy:=ne (ci (rI .i64) bL) (fun x=>(x.Tag,x.Arg))
theorem ga:lK eQ 0 (rI .i64) (fun x=>x.Tag):=(dq cn)
theorem kf:lK eQ 1 bL (fun x=>x.Arg):=(aE cn rfl)
theorem s5: ∀S,eQ.rc S [.int .i64 0,.slice none 0 0] ((⟨(0:Int),(⟨[]⟩:bv)⟩:fy)):=fun _=>⟨[.int .i64 0],[.slice none 0 0],rfl,rfl,qx _⟩
structure ap where
 Op:Int
 A:Int
 B:Int
 Table:Int
 Kinds:(List Int)
 Left:Bool
 Cond:bv
 Keys:(List Int)
 Aggs:(List fy)
 Items:(List bv)
 Order:(List kq)
 Limit:Int
 deriving DecidableEq,Inhabited
def aJ:Rp ap:=ne (ci (rI .i64) (ci (rI .i64) (ci (rI .i64) (ci (rI .i64) (ci (gB (rI .i64)) (ci rB (ci bL (ci (gB (rI .i64)) (ci (gB eQ) (ci (gB bL) (ci (gB iY) (rI .i64)))))))))))) (fun x=>(x.Op,x.A,x.B,x.Table,x.Kinds,x.Left,x.Cond,x.Keys,x.Aggs,x.Items,x.Order,x.Limit))
theorem cg:lK aJ 0 (rI .i64) (fun x=>x.Op):=(dq cn)
theorem ug:km aJ 0 (rI .i64) (fun x y=>{x with Op:=y}):=dS eM (fun _ _=>rfl)
theorem eW:lK aJ 1 (rI .i64) (fun x=>x.A):=(dq (aE cn rfl))
theorem A9:km aJ 1 (rI .i64) (fun x y=>{x with A:=y}):=dS (bB eM rfl) (fun _ _=>rfl)
theorem f7:lK aJ 2 (rI .i64) (fun x=>x.B):=(dq (aE (aE cn rfl) rfl))
theorem A8:km aJ 2 (rI .i64) (fun x y=>{x with B:=y}):=dS (bB (bB eM rfl) rfl) (fun _ _=>rfl)
theorem gr:lK aJ 3 (rI .i64) (fun x=>x.Table):=(dq (aE (aE (aE cn rfl) rfl) rfl))
theorem dz:lK aJ 4 (gB (rI .i64)) (fun x=>x.Kinds):=(dq (aE (aE (aE (aE cn rfl) rfl) rfl) rfl))
theorem Hm:km aJ 4 (gB (rI .i64)) (fun x y=>{x with Kinds:=y}):=dS (bB (bB (bB (bB eM rfl) rfl) rfl) rfl) (fun _ _=>rfl)
theorem nQ:lK aJ 5 rB (fun x=>x.Left):=(dq (aE (aE (aE (aE (aE cn rfl) rfl) rfl) rfl) rfl))
theorem gN:lK aJ 6 bL (fun x=>x.Cond):=(dq (aE (aE (aE (aE (aE (aE cn rfl) rfl) rfl) rfl) rfl) rfl))
theorem dl:lK aJ 7 (gB (rI .i64)) (fun x=>x.Keys):=(dq (aE (aE (aE (aE (aE (aE (aE cn rfl) rfl) rfl) rfl) rfl) rfl) rfl))
theorem cz:lK aJ 8 (gB eQ) (fun x=>x.Aggs):=(dq (aE (aE (aE (aE (aE (aE (aE (aE cn rfl) rfl) rfl) rfl) rfl) rfl) rfl) rfl))
theorem gq:lK aJ 9 (gB bL) (fun x=>x.Items):=(dq (aE (aE (aE (aE (aE (aE (aE (aE (aE cn rfl) rfl) rfl) rfl) rfl) rfl) rfl) rfl) rfl))
theorem dR:lK aJ 10 (gB iY) (fun x=>x.Order):=(dq (aE (aE (aE (aE (aE (aE (aE (aE (aE (aE cn rfl) rfl) rfl) rfl) rfl) rfl) rfl) rfl) rfl) rfl))
theorem iu:lK aJ 11 (rI .i64) (fun x=>x.Limit):=(aE (aE (aE (aE (aE (aE (aE (aE (aE (aE (aE cn rfl) rfl) rfl) rfl) rfl) rfl) rfl) rfl) rfl) rfl) rfl)
theorem iX: ∀S,aJ.rc S [.int .i64 0,.int .i64 0,.int .i64 0,.int .i64 0,.slice none 0 0,.bool false,.slice none 0 0,.slice none 0 0,.slice none 0 0,.slice none 0 0,.slice none 0 0,.int .i64 0] ((⟨(0:Int),(0:Int),(0:Int),(0:Int),[],false,(⟨[]⟩:bv),[],[],[],[],(0:Int)⟩:ap)):=fun _=>⟨[.int .i64 0],[.int .i64 0,.int .i64 0,.int .i64 0,.slice none 0 0,.bool false,.slice none 0 0,.slice none 0 0,.slice none 0 0,.slice none 0 0,.slice none 0 0,.int .i64 0],rfl,rfl,⟨[.int .i64 0],[.int .i64 0,.int .i64 0,.slice none 0 0,.bool false,.slice none 0 0,.slice none 0 0,.slice none 0 0,.slice none 0 0,.slice none 0 0,.int .i64 0],rfl,rfl,⟨[.int .i64 0],[.int .i64 0,.slice none 0 0,.bool false,.slice none 0 0,.slice none 0 0,.slice none 0 0,.slice none 0 0,.slice none 0 0,.int .i64 0],rfl,rfl,⟨[.int .i64 0],[.slice none 0 0,.bool false,.slice none 0 0,.slice none 0 0,.slice none 0 0,.slice none 0 0,.slice none 0 0,.int .i64 0],rfl,rfl,⟨[.slice none 0 0],[.bool false,.slice none 0 0,.slice none 0 0,.slice none 0 0,.slice none 0 0,.slice none 0 0,.int .i64 0],rfl,⟨none,0,rfl,eE _,nU _,.inl rfl⟩,⟨[.bool false],[.slice none 0 0,.slice none 0 0,.slice none 0 0,.slice none 0 0,.slice none 0 0,.int .i64 0],rfl,rfl,⟨[.slice none 0 0],[.slice none 0 0,.slice none 0 0,.slice none 0 0,.slice none 0 0,.int .i64 0],rfl,qx _,⟨[.slice none 0 0],[.slice none 0 0,.slice none 0 0,.slice none 0 0,.int .i64 0],rfl,⟨none,0,rfl,eE _,nU _,.inl rfl⟩,⟨[.slice none 0 0],[.slice none 0 0,.slice none 0 0,.int .i64 0],rfl,⟨none,0,rfl,eE _,nU _,.inl rfl⟩,⟨[.slice none 0 0],[.slice none 0 0,.int .i64 0],rfl,⟨none,0,rfl,eE _,nU _,.inl rfl⟩,⟨[.slice none 0 0],[.int .i64 0],rfl,⟨none,0,rfl,eE _,nU _,.inl rfl⟩,rfl⟩⟩⟩⟩⟩⟩⟩⟩⟩⟩⟩
structure ez where
 Nodes:(List ap)
 At:Int
 Way:Int
 Cols:(List Int)
 deriving DecidableEq,Inhabited
def fa:Rp ez:=ne (ci (gB aJ) (ci (rI .i64) (ci (rI .i64) (gB (rI .i64))))) (fun x=>(x.Nodes,x.At,x.Way,x.Cols))
theorem kC:lK fa 0 (gB aJ) (fun x=>x.Nodes):=(dq cn)
theorem mU:lK fa 1 (rI .i64) (fun x=>x.At):=(dq (aE cn rfl))
theorem mT:lK fa 2 (rI .i64) (fun x=>x.Way):=(dq (aE (aE cn rfl) rfl))
theorem jV:lK fa 3 (gB (rI .i64)) (fun x=>x.Cols):=(aE (aE (aE cn rfl) rfl) rfl)
theorem rn: ∀S,fa.rc S [.slice none 0 0,.int .i64 0,.int .i64 0,.slice none 0 0] ((⟨[],(0:Int),(0:Int),[]⟩:ez)):=fun _=>⟨[.slice none 0 0],[.int .i64 0,.int .i64 0,.slice none 0 0],rfl,⟨none,0,rfl,eE _,nU _,.inl rfl⟩,⟨[.int .i64 0],[.int .i64 0,.slice none 0 0],rfl,rfl,⟨[.int .i64 0],[.slice none 0 0],rfl,rfl,⟨none,0,rfl,eE _,nU _,.inl rfl⟩⟩⟩⟩
structure dn where
 Frags:(List ez)
 deriving DecidableEq,Inhabited
def iy:Rp dn:=ne (gB fa) (fun x=>(x.Frags))
theorem fQ:lK iy 0 (gB fa) (fun x=>x.Frags):=cn
theorem Ir: ∀S,iy.rc S [.slice none 0 0] ((⟨[]⟩:dn)):=fun _=>⟨none,0,rfl,eE _,nU _,.inl rfl⟩
structure cu where
 Kind:Int
 From:Int
 To:Int
 Epoch:Int
 Frag:Int
 Sites:Int
 Plan:dn
 Packet:co
 Err:Int
 deriving DecidableEq,Inhabited
def dN:Rp cu:=ne (ci (rI .i64) (ci (rI .i64) (ci (rI .i64) (ci (rI .i64) (ci (rI .i64) (ci (rI .i64) (ci iy (ci eU (rI .i64))))))))) (fun x=>(x.Kind,x.From,x.To,x.Epoch,x.Frag,x.Sites,x.Plan,x.Packet,x.Err))
theorem lD:lK dN 0 (rI .i64) (fun x=>x.Kind):=(dq cn)
theorem A6:km dN 0 (rI .i64) (fun x y=>{x with Kind:=y}):=dS eM (fun _ _=>rfl)
theorem oK:lK dN 1 (rI .i64) (fun x=>x.From):=(dq (aE cn rfl))
theorem A5:km dN 1 (rI .i64) (fun x y=>{x with From:=y}):=dS (bB eM rfl) (fun _ _=>rfl)
theorem oJ:lK dN 2 (rI .i64) (fun x=>x.To):=(dq (aE (aE cn rfl) rfl))
theorem FB:km dN 2 (rI .i64) (fun x y=>{x with To:=y}):=dS (bB (bB eM rfl) rfl) (fun _ _=>rfl)
theorem nP:lK dN 3 (rI .i64) (fun x=>x.Epoch):=(dq (aE (aE (aE cn rfl) rfl) rfl))
theorem A4:km dN 3 (rI .i64) (fun x y=>{x with Epoch:=y}):=dS (bB (bB (bB eM rfl) rfl) rfl) (fun _ _=>rfl)
theorem mu:lK dN 4 (rI .i64) (fun x=>x.Frag):=(dq (aE (aE (aE (aE cn rfl) rfl) rfl) rfl))
theorem FA:km dN 4 (rI .i64) (fun x y=>{x with Frag:=y}):=dS (bB (bB (bB (bB eM rfl) rfl) rfl) rfl) (fun _ _=>rfl)
theorem nO:lK dN 5 (rI .i64) (fun x=>x.Sites):=(dq (aE (aE (aE (aE (aE cn rfl) rfl) rfl) rfl) rfl))
theorem Fz:km dN 5 (rI .i64) (fun x y=>{x with Sites:=y}):=dS (bB (bB (bB (bB (bB eM rfl) rfl) rfl) rfl) rfl) (fun _ _=>rfl)
theorem oI:lK dN 6 iy (fun x=>x.Plan):=(dq (aE (aE (aE (aE (aE (aE cn rfl) rfl) rfl) rfl) rfl) rfl))
theorem Fy:km dN 6 iy (fun x y=>{x with Plan:=y}):=dS (bB (bB (bB (bB (bB (bB eM rfl) rfl) rfl) rfl) rfl) rfl) (fun _ _=>rfl)
theorem mt:lK dN 7 eU (fun x=>x.Packet):=(dq (aE (aE (aE (aE (aE (aE (aE cn rfl) rfl) rfl) rfl) rfl) rfl) rfl))
theorem Fx:km dN 7 eU (fun x y=>{x with Packet:=y}):=dS (bB (bB (bB (bB (bB (bB (bB eM rfl) rfl) rfl) rfl) rfl) rfl) rfl) (fun _ _=>rfl)
theorem nN:lK dN 14 (rI .i64) (fun x=>x.Err):=(aE (aE (aE (aE (aE (aE (aE (aE cn rfl) rfl) rfl) rfl) rfl) rfl) rfl) rfl)
theorem Fw:km dN 14 (rI .i64) (fun x y=>{x with Err:=y}):=dS (bB (bB (bB (bB (bB (bB (bB (bB aY rfl) rfl) rfl) rfl) rfl) rfl) rfl) rfl) (fun _ _=>rfl)
theorem vk: ∀S,dN.rc S [.int .i64 0,.int .i64 0,.int .i64 0,.int .i64 0,.int .i64 0,.int .i64 0,.slice none 0 0,.int .i64 0,.int .u32 0,.int .u64 0,.int .u64 0,.slice none 0 0,.bool false,.int .u64 0,.int .i64 0] ((⟨(0:Int),(0:Int),(0:Int),(0:Int),(0:Int),(0:Int),(⟨[]⟩:dn),(⟨(0:Int),(0:Int),(0:Int),(0:Int),(⟨[],false,(0:Int)⟩:dH)⟩:co),(0:Int)⟩:cu)):=fun _=>⟨[.int .i64 0],[.int .i64 0,.int .i64 0,.int .i64 0,.int .i64 0,.int .i64 0,.slice none 0 0,.int .i64 0,.int .u32 0,.int .u64 0,.int .u64 0,.slice none 0 0,.bool false,.int .u64 0,.int .i64 0],rfl,rfl,⟨[.int .i64 0],[.int .i64 0,.int .i64 0,.int .i64 0,.int .i64 0,.slice none 0 0,.int .i64 0,.int .u32 0,.int .u64 0,.int .u64 0,.slice none 0 0,.bool false,.int .u64 0,.int .i64 0],rfl,rfl,⟨[.int .i64 0],[.int .i64 0,.int .i64 0,.int .i64 0,.slice none 0 0,.int .i64 0,.int .u32 0,.int .u64 0,.int .u64 0,.slice none 0 0,.bool false,.int .u64 0,.int .i64 0],rfl,rfl,⟨[.int .i64 0],[.int .i64 0,.int .i64 0,.slice none 0 0,.int .i64 0,.int .u32 0,.int .u64 0,.int .u64 0,.slice none 0 0,.bool false,.int .u64 0,.int .i64 0],rfl,rfl,⟨[.int .i64 0],[.int .i64 0,.slice none 0 0,.int .i64 0,.int .u32 0,.int .u64 0,.int .u64 0,.slice none 0 0,.bool false,.int .u64 0,.int .i64 0],rfl,rfl,⟨[.int .i64 0],[.slice none 0 0,.int .i64 0,.int .u32 0,.int .u64 0,.int .u64 0,.slice none 0 0,.bool false,.int .u64 0,.int .i64 0],rfl,rfl,⟨[.slice none 0 0],[.int .i64 0,.int .u32 0,.int .u64 0,.int .u64 0,.slice none 0 0,.bool false,.int .u64 0,.int .i64 0],rfl,Ir _,⟨[.int .i64 0,.int .u32 0,.int .u64 0,.int .u64 0,.slice none 0 0,.bool false,.int .u64 0],[.int .i64 0],rfl,yW _,rfl⟩⟩⟩⟩⟩⟩⟩⟩
structure al where
 nodes:(List ap)
 kinds:(List (List Int))
 open_:(List Int)
 n:ap
 a_:(List Int)
 b:(List Int)
 result:(List Int)
 deriving DecidableEq,Inhabited
def bo:Rp al:=ne (ci (gB aJ) (ci (gB (gB (rI .i64))) (ci (Np:Rp (List Int)) (ci aJ (ci (gB (rI .i64)) (ci (gB (rI .i64)) (gB (rI .i64)))))))) (fun x=>(x.nodes,x.kinds,x.open_,x.n,x.a_,x.b,x.result))
theorem zl:lK bo 0 (gB aJ) (fun x=>x.nodes):=(dq cn)
theorem JR:km bo 0 (gB aJ) (fun x y=>{x with nodes:=y}):=dS eM (fun _ _=>rfl)
theorem JQ:km bo 1 (gB (gB (rI .i64))) (fun x y=>{x with kinds:=y}):=dS (bB eM rfl) (fun _ _=>rfl)
theorem JP:km bo 2 (Np:Rp (List Int)) (fun x y=>{x with open_:=y}):=dS (bB (bB eM rfl) rfl) (fun _ _=>rfl)
theorem fD:lK bo 3 aJ (fun x=>x.n):=(dq (aE (aE (aE cn rfl) rfl) rfl))
theorem JO:km bo 3 aJ (fun x y=>{x with n:=y}):=dS (bB (bB (bB eM rfl) rfl) rfl) (fun _ _=>rfl)
theorem ot:lK bo 15 (gB (rI .i64)) (fun x=>x.a_):=(dq (aE (aE (aE (aE cn rfl) rfl) rfl) rfl))
theorem C4:km bo 15 (gB (rI .i64)) (fun x y=>{x with a_:=y}):=dS (bB (bB (bB (bB eM rfl) rfl) rfl) rfl) (fun _ _=>rfl)
theorem Do:lK bo 16 (gB (rI .i64)) (fun x=>x.b):=(dq (aE (aE (aE (aE (aE cn rfl) rfl) rfl) rfl) rfl))
theorem C3:km bo 16 (gB (rI .i64)) (fun x y=>{x with b:=y}):=dS (bB (bB (bB (bB (bB eM rfl) rfl) rfl) rfl) rfl) (fun _ _=>rfl)
theorem zk:lK bo 17 (gB (rI .i64)) (fun x=>x.result):=(aE (aE (aE (aE (aE (aE cn rfl) rfl) rfl) rfl) rfl) rfl)
theorem rJ:km bo 17 (gB (rI .i64)) (fun x y=>{x with result:=y}):=dS (bB (bB (bB (bB (bB (bB aY rfl) rfl) rfl) rfl) rfl) rfl) (fun _ _=>rfl)
theorem MU: ∀S,bo.rc S [.slice none 0 0,.slice none 0 0,.slice none 0 0,.int .i64 0,.int .i64 0,.int .i64 0,.int .i64 0,.slice none 0 0,.bool false,.slice none 0 0,.slice none 0 0,.slice none 0 0,.slice none 0 0,.slice none 0 0,.int .i64 0,.slice none 0 0,.slice none 0 0,.slice none 0 0] ((⟨[],[],[],(⟨(0:Int),(0:Int),(0:Int),(0:Int),[],false,(⟨[]⟩:bv),[],[],[],[],(0:Int)⟩:ap),[],[],[]⟩:al)):=fun _=>⟨[.slice none 0 0],[.slice none 0 0,.slice none 0 0,.int .i64 0,.int .i64 0,.int .i64 0,.int .i64 0,.slice none 0 0,.bool false,.slice none 0 0,.slice none 0 0,.slice none 0 0,.slice none 0 0,.slice none 0 0,.int .i64 0,.slice none 0 0,.slice none 0 0,.slice none 0 0],rfl,⟨none,0,rfl,eE _,nU _,.inl rfl⟩,⟨[.slice none 0 0],[.slice none 0 0,.int .i64 0,.int .i64 0,.int .i64 0,.int .i64 0,.slice none 0 0,.bool false,.slice none 0 0,.slice none 0 0,.slice none 0 0,.slice none 0 0,.slice none 0 0,.int .i64 0,.slice none 0 0,.slice none 0 0,.slice none 0 0],rfl,⟨none,0,rfl,eE _,nU _,.inl rfl⟩,⟨[.slice none 0 0],[.int .i64 0,.int .i64 0,.int .i64 0,.int .i64 0,.slice none 0 0,.bool false,.slice none 0 0,.slice none 0 0,.slice none 0 0,.slice none 0 0,.slice none 0 0,.int .i64 0,.slice none 0 0,.slice none 0 0,.slice none 0 0],rfl,⟨_,rfl,rfl⟩,⟨[.int .i64 0,.int .i64 0,.int .i64 0,.int .i64 0,.slice none 0 0,.bool false,.slice none 0 0,.slice none 0 0,.slice none 0 0,.slice none 0 0,.slice none 0 0,.int .i64 0],[.slice none 0 0,.slice none 0 0,.slice none 0 0],rfl,iX _,⟨[.slice none 0 0],[.slice none 0 0,.slice none 0 0],rfl,⟨none,0,rfl,eE _,nU _,.inl rfl⟩,⟨[.slice none 0 0],[.slice none 0 0],rfl,⟨none,0,rfl,eE _,nU _,.inl rfl⟩,⟨none,0,rfl,eE _,nU _,.inl rfl⟩⟩⟩⟩⟩⟩⟩
structure aI where
 bytes:(List Int)
 deriving DecidableEq,Inhabited
def bd:Rp aI:=ne (gB (rI .u8)) (fun x=>(x.bytes))
theorem lQ:km bd 0 (gB (rI .u8)) (fun x y=>{x with bytes:=y}):=dS aY (fun _ _=>rfl)
theorem Jt: ∀S,bd.rc S [.slice none 0 0] ((⟨[]⟩:aI)):=fun _=>⟨none,0,rfl,eE _,nU _,.inl rfl⟩
structure dh where
 Nodes:(List ap)
 deriving DecidableEq,Inhabited
def j5:Rp dh:=ne (gB aJ) (fun x=>(x.Nodes))
theorem lg:lK j5 0 (gB aJ) (fun x=>x.Nodes):=cn
theorem A7:km j5 0 (gB aJ) (fun x y=>{x with Nodes:=y}):=dS aY (fun _ _=>rfl)
theorem E5: ∀S,j5.rc S [.slice none 0 0] ((⟨[]⟩:dh)):=fun _=>⟨none,0,rfl,eE _,nU _,.inl rfl⟩
structure Jp where
 Nodes:Value
def my:Rp Jp:=ne rV (fun x=>(x.Nodes))
theorem qX:lK my 0 rV (fun x=>x.Nodes):=cn
def oj(y:bv)(v0:Value):Jp:=⟨v0⟩
theorem Js: ∀S,my.rc S [.slice none 0 0] (oj ((⟨[]⟩:bv)) (ax none 0 0)):=fun _=>⟨rfl,rfl⟩
structure GP where
 Op:Int
 A:Int
 B:Int
 Table:Int
 Kinds:(List Int)
 Left:Bool
 Cond:bv
 Keys:(List Int)
 Aggs:(List fy)
 Items:Value
 Order:(List kq)
 Limit:Int
def j4:Rp GP:=ne (ci (rI .i64) (ci (rI .i64) (ci (rI .i64) (ci (rI .i64) (ci (gB (rI .i64)) (ci rB (ci bL (ci (gB (rI .i64)) (ci (gB eQ) (ci rV (ci (gB iY) (rI .i64)))))))))))) (fun x=>(x.Op,x.A,x.B,x.Table,x.Kinds,x.Left,x.Cond,x.Keys,x.Aggs,x.Items,x.Order,x.Limit))
theorem DW:km j4 0 (rI .i64) (fun x y=>{x with Op:=y}):=dS eM (fun _ _=>rfl)
theorem DV:km j4 1 (rI .i64) (fun x y=>{x with A:=y}):=dS (bB eM rfl) (fun _ _=>rfl)
theorem DU:km j4 2 (rI .i64) (fun x y=>{x with B:=y}):=dS (bB (bB eM rfl) rfl) (fun _ _=>rfl)
theorem Ep:lK j4 9 rV (fun x=>x.Items):=(dq (aE (aE (aE (aE (aE (aE (aE (aE (aE cn rfl) rfl) rfl) rfl) rfl) rfl) rfl) rfl) rfl))
def nI(y:ap)(v9:Value):GP:=⟨y.Op,y.A,y.B,y.Table,y.Kinds,y.Left,y.Cond,y.Keys,y.Aggs,v9,y.Order,y.Limit⟩
theorem AO: ∀S,j4.rc S [.int .i64 0,.int .i64 0,.int .i64 0,.int .i64 0,.slice none 0 0,.bool false,.slice none 0 0,.slice none 0 0,.slice none 0 0,.slice none 0 0,.slice none 0 0,.int .i64 0] (nI ((⟨(0:Int),(0:Int),(0:Int),(0:Int),[],false,(⟨[]⟩:bv),[],[],[],[],(0:Int)⟩:ap)) (ax none 0 0)):=fun _=>⟨[.int .i64 0],[.int .i64 0,.int .i64 0,.int .i64 0,.slice none 0 0,.bool false,.slice none 0 0,.slice none 0 0,.slice none 0 0,.slice none 0 0,.slice none 0 0,.int .i64 0],rfl,rfl,⟨[.int .i64 0],[.int .i64 0,.int .i64 0,.slice none 0 0,.bool false,.slice none 0 0,.slice none 0 0,.slice none 0 0,.slice none 0 0,.slice none 0 0,.int .i64 0],rfl,rfl,⟨[.int .i64 0],[.int .i64 0,.slice none 0 0,.bool false,.slice none 0 0,.slice none 0 0,.slice none 0 0,.slice none 0 0,.slice none 0 0,.int .i64 0],rfl,rfl,⟨[.int .i64 0],[.slice none 0 0,.bool false,.slice none 0 0,.slice none 0 0,.slice none 0 0,.slice none 0 0,.slice none 0 0,.int .i64 0],rfl,rfl,⟨[.slice none 0 0],[.bool false,.slice none 0 0,.slice none 0 0,.slice none 0 0,.slice none 0 0,.slice none 0 0,.int .i64 0],rfl,⟨none,0,rfl,eE _,nU _,.inl rfl⟩,⟨[.bool false],[.slice none 0 0,.slice none 0 0,.slice none 0 0,.slice none 0 0,.slice none 0 0,.int .i64 0],rfl,rfl,⟨[.slice none 0 0],[.slice none 0 0,.slice none 0 0,.slice none 0 0,.slice none 0 0,.int .i64 0],rfl,qx _,⟨[.slice none 0 0],[.slice none 0 0,.slice none 0 0,.slice none 0 0,.int .i64 0],rfl,⟨none,0,rfl,eE _,nU _,.inl rfl⟩,⟨[.slice none 0 0],[.slice none 0 0,.slice none 0 0,.int .i64 0],rfl,⟨none,0,rfl,eE _,nU _,.inl rfl⟩,⟨[.slice none 0 0],[.slice none 0 0,.int .i64 0],rfl,⟨rfl,rfl⟩,⟨[.slice none 0 0],[.int .i64 0],rfl,⟨none,0,rfl,eE _,nU _,.inl rfl⟩,rfl⟩⟩⟩⟩⟩⟩⟩⟩⟩⟩⟩
structure GO where
 Nodes:Value
def lW:Rp GO:=ne rV (fun x=>(x.Nodes))
theorem oq:lK lW 0 rV (fun x=>x.Nodes):=cn
def nH(y:dh)(v0:Value):GO:=⟨v0⟩
theorem G9: ∀S,lW.rc S [.slice none 0 0] (nH ((⟨[]⟩:dh)) (ax none 0 0)):=fun _=>⟨rfl,rfl⟩
structure Jo where
 nodes:(List ap)
 kinds:(List (List Int))
 open_:(List Int)
 n:ap
 a_:(List Int)
 b:(List Int)
 result:Value
def bK:Rp Jo:=ne (ci (gB aJ) (ci (gB (gB (rI .i64))) (ci (Np:Rp (List Int)) (ci aJ (ci (gB (rI .i64)) (ci (gB (rI .i64)) rV)))))) (fun x=>(x.nodes,x.kinds,x.open_,x.n,x.a_,x.b,x.result))
theorem vV:lK bK 3 aJ (fun x=>x.n):=(dq (aE (aE (aE cn rfl) rfl) rfl))
theorem jP:lK bK 15 (gB (rI .i64)) (fun x=>x.a_):=(dq (aE (aE (aE (aE cn rfl) rfl) rfl) rfl))
theorem Gp:lK bK 16 (gB (rI .i64)) (fun x=>x.b):=(dq (aE (aE (aE (aE (aE cn rfl) rfl) rfl) rfl) rfl))
theorem kR:lK bK 17 rV (fun x=>x.result):=(aE (aE (aE (aE (aE (aE cn rfl) rfl) rfl) rfl) rfl) rfl)
def bO(y:al)(v6:Value):Jo:=⟨y.nodes,y.kinds,y.open_,y.n,y.a_,y.b,v6⟩
theorem BR{S:SH}{cs:List Value}{y:bv}{v0:Value}{xs0:(List bC)}(k0:(gB bG).rc S [v0] xs0)(h:my.rc S cs (oj y v0)):bL.rc S cs ((⟨xs0⟩:bv)):=by
 have h0:=h
 exact(by rw [h0.1];exact k0)
theorem An{S:SH}{cs:List Value}{y:ap}{v9:Value}{xs9:(List bv)}(k9:(gB bL).rc S [v9] xs9)(h:j4.rc S cs (nI y v9)):aJ.rc S cs ((⟨y.Op,y.A,y.B,y.Table,y.Kinds,y.Left,y.Cond,y.Keys,y.Aggs,xs9,y.Order,y.Limit⟩:ap)):=by
 obtain⟨a0,b0,e0,h0,a1,b1,e1,h1,a2,b2,e2,h2,a3,b3,e3,h3,a4,b4,e4,h4,a5,b5,e5,h5,a6,b6,e6,h6,a7,b7,e7,h7,a8,b8,e8,h8,a9,b9,e9,h9,a10,b10,e10,h10,h11⟩:=h
 exact⟨a0,b0,e0,h0,a1,b1,e1,h1,a2,b2,e2,h2,a3,b3,e3,h3,a4,b4,e4,h4,a5,b5,e5,h5,a6,b6,e6,h6,a7,b7,e7,h7,a8,b8,e8,h8,a9,b9,e9,(by rw [h9.1];exact k9),a10,b10,e10,h10,h11⟩
theorem Am{S:SH}{cs:List Value}{y:dh}{v0:Value}{xs0:(List ap)}(k0:(gB aJ).rc S [v0] xs0)(h:lW.rc S cs (nH y v0)):j5.rc S cs ((⟨xs0⟩:dh)):=by
 have h0:=h
 exact(by rw [h0.1];exact k0)
theorem ig{S:SH}{cs:List Value}{y:al}{v6:Value}{xs6:(List Int)}(k6:(gB (rI .i64)).rc S [v6] xs6)(h:bK.rc S cs (bO y v6)):bo.rc S cs ((⟨y.nodes,y.kinds,y.open_,y.n,y.a_,y.b,xs6⟩:al)):=by
 obtain⟨a0,b0,e0,h0,a1,b1,e1,h1,a2,b2,e2,h2,a3,b3,e3,h3,a4,b4,e4,h4,a5,b5,e5,h5,h6⟩:=h
 exact⟨a0,b0,e0,h0,a1,b1,e1,h1,a2,b2,e2,h2,a3,b3,e3,h3,a4,b4,e4,h4,a5,b5,e5,h5,(by rw [h6.1];exact k6)⟩
theorem ri(y:bv)(u:Value)(v:Value):q0 my my 0 rV (oj y u) v (oj y v):=xZ (p8 rfl) rfl
theorem vt(y:ap)(u:Value)(v:Value):q0 j4 j4 9 rV (nI y u) v (nI y v):=xZ (iO (iO (iO (iO (iO (iO (iO (iO (iO (Nj (p8 rfl) rfl) rfl) rfl) rfl) rfl) rfl) rfl) rfl) rfl) rfl) rfl
theorem qO(y:dh)(u:Value)(v:Value):q0 lW lW 0 rV (nH y u) v (nH y v):=xZ (p8 rfl) rfl
theorem kH(y:al)(v:Value):q0 bo bK 17 rV (y) v (bO y v):=xZ (iO (iO (iO (iO (iO (iO (p8 rfl) rfl) rfl) rfl) rfl) rfl) rfl) rfl
theorem il(y:al)(u:Value)(v:Value):q0 bK bK 17 rV (bO y u) v (bO y v):=xZ (iO (iO (iO (iO (iO (iO (p8 rfl) rfl) rfl) rfl) rfl) rfl) rfl) rfl
def eD(b:Nat)(x:al)(i:OI):List OE:=[bx (rH bo [(1,ax (i.h 0).1 (i.h 0).2 x.kinds.length),(2,ax (i.h 1).1 (i.h 1).2 x.open_.length)]) 168 b x,tip (gB (rI .i64)) 69 (i.h 0).1 (i.h 0).2 x.kinds,df (rI .i64) 3 (i.h 1).1 (i.h 1).2 x.open_]
def eH(b:Nat)(x:aI)(i:OI):List OE:=[bx (rH bd [(0,ax (i.h 0).1 (i.h 0).2 x.bytes.length)]) 60 b x,tip (rI .u8) 5 (i.h 0).1 (i.h 0).2 x.bytes]
def Qw(b:Nat)(x:al)(i:OI):List OE:=[bx (rH bK [(1,ax (i.h 0).1 (i.h 0).2 x.kinds.length),(2,ax (i.h 1).1 (i.h 1).2 x.open_.length)]) 168 b (bO x (ax (i.h 2).1 (i.h 2).2 x.result.length)),tip (gB (rI .i64)) 69 (i.h 0).1 (i.h 0).2 x.kinds,df (rI .i64) 3 (i.h 1).1 (i.h 1).2 x.open_,df (rI .i64) 3 (i.h 2).1 (i.h 2).2 x.result]

end Go.Proofs.YtdohlidddcgfjaaGreat

