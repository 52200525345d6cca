/- cF of this claim: D. -/
import Derived.Test.YtmogpgcfognefaaGreatDoorNbV4
set_option linter.all false
namespace Go.Proofs.YtmogpgcfognefaaGreatDoor
open Go

structure cO where
 Kind:Int
 N:Int
 U:Int
 S:ji
 deriving DecidableEq,Inhabited
def dr:Rp cO:=kb (bQ (rI .i64) (bQ (rI .i64) (bQ (rI .u64) rS))) (fun x=>(x.Kind,x.N,x.U,x.S))
theorem qd:jj dr 0 (rI .i64) (fun x=>x.Kind):=(cH bK)
theorem sN:fz dr 0 (rI .i64) (fun x y=>{x with Kind:=y}):=cj db (fun _ _=>rfl)
theorem sS:jj dr 1 (rI .i64) (fun x=>x.N):=(cH (aw bK rfl))
theorem wL:fz dr 1 (rI .i64) (fun x y=>{x with N:=y}):=cj (aS db rfl) (fun _ _=>rfl)
theorem De:jj dr 2 (rI .u64) (fun x=>x.U):=(cH (aw (aw bK rfl) rfl))
theorem CO:fz dr 2 (rI .u64) (fun x y=>{x with U:=y}):=cj (aS (aS db rfl) rfl) (fun _ _=>rfl)
theorem qc:jj dr 3 rS (fun x=>x.S):=(aw (aw (aw bK rfl) rfl) rfl)
theorem wK:fz dr 3 rS (fun x y=>{x with S:=y}):=cj (aS (aS (aS ax rfl) rfl) rfl) (fun _ _=>rfl)
theorem qM: ∀S,dr.rc S [.int .i64 0,.int .i64 0,.int .u64 0,.string ⟨#[]⟩] ((⟨(0:Int),(0:Int),(0:Int),[]⟩:cO)):=fun _=>⟨[.int .i64 0],[.int .i64 0,.int .u64 0,.string ⟨#[]⟩],rfl,rfl,⟨[.int .i64 0],[.int .u64 0,.string ⟨#[]⟩],rfl,rfl,⟨[.int .u64 0],[.string ⟨#[]⟩],rfl,rfl,rfl⟩⟩⟩
structure bq where
 Tag:Int
 L:Int
 R:Int
 Col:Int
 Value:cO
 deriving DecidableEq,Inhabited
def aQ:Rp bq:=kb (bQ (rI .i64) (bQ (rI .i64) (bQ (rI .i64) (bQ (rI .i64) dr)))) (fun x=>(x.Tag,x.L,x.R,x.Col,x.Value))
theorem eI:jj aQ 0 (rI .i64) (fun x=>x.Tag):=(cH bK)
theorem qg:jj aQ 1 (rI .i64) (fun x=>x.L):=(cH (aw bK rfl))
theorem CT:fz aQ 1 (rI .i64) (fun x y=>{x with L:=y}):=cj (aS db rfl) (fun _ _=>rfl)
theorem qf:jj aQ 2 (rI .i64) (fun x=>x.R):=(cH (aw (aw bK rfl) rfl))
theorem CS:fz aQ 2 (rI .i64) (fun x y=>{x with R:=y}):=cj (aS (aS db rfl) rfl) (fun _ _=>rfl)
theorem iw:jj aQ 3 (rI .i64) (fun x=>x.Col):=(cH (aw (aw (aw bK rfl) rfl) rfl))
theorem lS:jj aQ 4 dr (fun x=>x.Value):=(aw (aw (aw (aw bK rfl) rfl) rfl) rfl)
theorem CR:fz aQ 4 dr (fun x y=>{x with Value:=y}):=cj (aS (aS (aS (aS ax rfl) rfl) rfl) rfl) (fun _ _=>rfl)
theorem np: ∀S,aQ.rc S [.int .i64 0,.int .i64 0,.int .i64 0,.int .i64 0,.int .i64 0,.int .i64 0,.int .u64 0,.string ⟨#[]⟩] ((⟨(0:Int),(0:Int),(0:Int),(0:Int),(⟨(0:Int),(0:Int),(0:Int),[]⟩:cO)⟩:bq)):=fun _=>⟨[.int .i64 0],[.int .i64 0,.int .i64 0,.int .i64 0,.int .i64 0,.int .i64 0,.int .u64 0,.string ⟨#[]⟩],rfl,rfl,⟨[.int .i64 0],[.int .i64 0,.int .i64 0,.int .i64 0,.int .i64 0,.int .u64 0,.string ⟨#[]⟩],rfl,rfl,⟨[.int .i64 0],[.int .i64 0,.int .i64 0,.int .i64 0,.int .u64 0,.string ⟨#[]⟩],rfl,rfl,⟨[.int .i64 0],[.int .i64 0,.int .i64 0,.int .u64 0,.string ⟨#[]⟩],rfl,rfl,qM _⟩⟩⟩⟩
structure bk where
 Nodes:(List bq)
 deriving DecidableEq,Inhabited
def bc:Rp bk:=kb (dL aQ) (fun x=>(x.Nodes))
theorem c9:jj bc 0 (dL aQ) (fun x=>x.Nodes):=bK
theorem pO: ∀S,bc.rc S [.slice none 0 0] ((⟨[]⟩:bk)):=fun _=>⟨none,0,rfl,fL _,ju _,.inl rfl⟩
structure fU where
 Tag:Int
 Arg:bk
 deriving DecidableEq,Inhabited
def cT:Rp fU:=kb (bQ (rI .i64) bc) (fun x=>(x.Tag,x.Arg))
theorem kh:jj cT 0 (rI .i64) (fun x=>x.Tag):=(cH bK)
theorem pC:jj cT 1 bc (fun x=>x.Arg):=(aw bK rfl)
theorem GQ:fz cT 1 bc (fun x y=>{x with Arg:=y}):=cj (aS ax rfl) (fun _ _=>rfl)
theorem sD: ∀S,cT.rc S [.int .i64 0,.slice none 0 0] ((⟨(0:Int),(⟨[]⟩:bk)⟩:fU)):=fun _=>⟨[.int .i64 0],[.slice none 0 0],rfl,rfl,pO _⟩
structure iA where
 Col:Int
 Desc:Bool
 deriving DecidableEq,Inhabited
def fT:Rp iA:=kb (bQ (rI .i64) rB) (fun x=>(x.Col,x.Desc))
theorem xx:jj fT 0 (rI .i64) (fun x=>x.Col):=(cH bK)
theorem He:jj fT 1 rB (fun x=>x.Desc):=(aw bK rfl)
structure aB where
 Op:Int
 A:Int
 B:Int
 Table:Int
 Kinds:(List Int)
 Left:Bool
 Cond:bk
 Keys:(List Int)
 Aggs:(List fU)
 Items:(List bk)
 Order:(List iA)
 Limit:Int
 deriving DecidableEq,Inhabited
def aE:Rp aB:=kb (bQ (rI .i64) (bQ (rI .i64) (bQ (rI .i64) (bQ (rI .i64) (bQ (dL (rI .i64)) (bQ rB (bQ bc (bQ (dL (rI .i64)) (bQ (dL cT) (bQ (dL bc) (bQ (dL fT) (rI .i64)))))))))))) (fun x=>(x.Op,x.A,x.B,x.Table,x.Kinds,x.Left,x.Cond,x.Keys,x.Aggs,x.Items,x.Order,x.Limit))
theorem cK:jj aE 0 (rI .i64) (fun x=>x.Op):=(cH bK)
theorem pX:fz aE 0 (rI .i64) (fun x y=>{x with Op:=y}):=cj db (fun _ _=>rfl)
theorem kY:jj aE 1 (rI .i64) (fun x=>x.A):=(cH (aw bK rfl))
theorem pW:fz aE 1 (rI .i64) (fun x y=>{x with A:=y}):=cj (aS db rfl) (fun _ _=>rfl)
theorem m4:jj aE 2 (rI .i64) (fun x=>x.B):=(cH (aw (aw bK rfl) rfl))
theorem pV:fz aE 2 (rI .i64) (fun x y=>{x with B:=y}):=cj (aS (aS db rfl) rfl) (fun _ _=>rfl)
theorem gR:jj aE 3 (rI .i64) (fun x=>x.Table):=(cH (aw (aw (aw bK rfl) rfl) rfl))
theorem gQ:jj aE 4 (dL (rI .i64)) (fun x=>x.Kinds):=(cH (aw (aw (aw (aw bK rfl) rfl) rfl) rfl))
theorem pU:fz aE 4 (dL (rI .i64)) (fun x y=>{x with Kinds:=y}):=cj (aS (aS (aS (aS db rfl) rfl) rfl) rfl) (fun _ _=>rfl)
theorem Df:jj aE 5 rB (fun x=>x.Left):=(cH (aw (aw (aw (aw (aw bK rfl) rfl) rfl) rfl) rfl))
theorem oB:jj aE 6 bc (fun x=>x.Cond):=(cH (aw (aw (aw (aw (aw (aw bK rfl) rfl) rfl) rfl) rfl) rfl))
theorem ff:jj aE 7 (dL (rI .i64)) (fun x=>x.Keys):=(cH (aw (aw (aw (aw (aw (aw (aw bK rfl) rfl) rfl) rfl) rfl) rfl) rfl))
theorem CQ:fz aE 7 (dL (rI .i64)) (fun x y=>{x with Keys:=y}):=cj (aS (aS (aS (aS (aS (aS (aS db rfl) rfl) rfl) rfl) rfl) rfl) rfl) (fun _ _=>rfl)
theorem fI:jj aE 8 (dL cT) (fun x=>x.Aggs):=(cH (aw (aw (aw (aw (aw (aw (aw (aw bK rfl) rfl) rfl) rfl) rfl) rfl) rfl) rfl))
theorem oA:jj aE 9 (dL bc) (fun x=>x.Items):=(cH (aw (aw (aw (aw (aw (aw (aw (aw (aw bK rfl) rfl) rfl) rfl) rfl) rfl) rfl) rfl) rfl))
theorem jM:jj aE 10 (dL fT) (fun x=>x.Order):=(cH (aw (aw (aw (aw (aw (aw (aw (aw (aw (aw bK rfl) rfl) rfl) rfl) rfl) rfl) rfl) rfl) rfl) rfl))
theorem nz:jj aE 11 (rI .i64) (fun x=>x.Limit):=(aw (aw (aw (aw (aw (aw (aw (aw (aw (aw (aw bK rfl) rfl) rfl) rfl) rfl) rfl) rfl) rfl) rfl) rfl) rfl)
theorem fh: ∀S,aE.rc S [.int .i64 0,.int .i64 0,.int .i64 0,.int .i64 0,.slice none 0 0,.bool false,.slice none 0 0,.slice none 0 0,.slice none 0 0,.slice none 0 0,.slice none 0 0,.int .i64 0] ((⟨(0:Int),(0:Int),(0:Int),(0:Int),[],false,(⟨[]⟩:bk),[],[],[],[],(0:Int)⟩:aB)):=fun _=>⟨[.int .i64 0],[.int .i64 0,.int .i64 0,.int .i64 0,.slice none 0 0,.bool false,.slice none 0 0,.slice none 0 0,.slice none 0 0,.slice none 0 0,.slice none 0 0,.int .i64 0],rfl,rfl,⟨[.int .i64 0],[.int .i64 0,.int .i64 0,.slice none 0 0,.bool false,.slice none 0 0,.slice none 0 0,.slice none 0 0,.slice none 0 0,.slice none 0 0,.int .i64 0],rfl,rfl,⟨[.int .i64 0],[.int .i64 0,.slice none 0 0,.bool false,.slice none 0 0,.slice none 0 0,.slice none 0 0,.slice none 0 0,.slice none 0 0,.int .i64 0],rfl,rfl,⟨[.int .i64 0],[.slice none 0 0,.bool false,.slice none 0 0,.slice none 0 0,.slice none 0 0,.slice none 0 0,.slice none 0 0,.int .i64 0],rfl,rfl,⟨[.slice none 0 0],[.bool false,.slice none 0 0,.slice none 0 0,.slice none 0 0,.slice none 0 0,.slice none 0 0,.int .i64 0],rfl,⟨none,0,rfl,fL _,ju _,.inl rfl⟩,⟨[.bool false],[.slice none 0 0,.slice none 0 0,.slice none 0 0,.slice none 0 0,.slice none 0 0,.int .i64 0],rfl,rfl,⟨[.slice none 0 0],[.slice none 0 0,.slice none 0 0,.slice none 0 0,.slice none 0 0,.int .i64 0],rfl,pO _,⟨[.slice none 0 0],[.slice none 0 0,.slice none 0 0,.slice none 0 0,.int .i64 0],rfl,⟨none,0,rfl,fL _,ju _,.inl rfl⟩,⟨[.slice none 0 0],[.slice none 0 0,.slice none 0 0,.int .i64 0],rfl,⟨none,0,rfl,fL _,ju _,.inl rfl⟩,⟨[.slice none 0 0],[.slice none 0 0,.int .i64 0],rfl,⟨none,0,rfl,fL _,ju _,.inl rfl⟩,⟨[.slice none 0 0],[.int .i64 0],rfl,⟨none,0,rfl,fL _,ju _,.inl rfl⟩,rfl⟩⟩⟩⟩⟩⟩⟩⟩⟩⟩⟩
structure af where
 nodes:(List aB)
 kinds:(List (List Int))
 open_:(List Int)
 n:aB
 a_:(List Int)
 b:(List Int)
 result:(List Int)
 deriving DecidableEq,Inhabited
def aN:Rp af:=kb (bQ (dL aE) (bQ (dL (dL (rI .i64))) (bQ (Ik:Rp (List Int)) (bQ aE (bQ (dL (rI .i64)) (bQ (dL (rI .i64)) (dL (rI .i64)))))))) (fun x=>(x.nodes,x.kinds,x.open_,x.n,x.a_,x.b,x.result))
theorem uU:jj aN 0 (dL aE) (fun x=>x.nodes):=(cH bK)
theorem Fs:fz aN 0 (dL aE) (fun x y=>{x with nodes:=y}):=cj db (fun _ _=>rfl)
theorem Fq:fz aN 1 (dL (dL (rI .i64))) (fun x y=>{x with kinds:=y}):=cj (aS db rfl) (fun _ _=>rfl)
theorem Fp:fz aN 2 (Ik:Rp (List Int)) (fun x y=>{x with open_:=y}):=cj (aS (aS db rfl) rfl) (fun _ _=>rfl)
theorem dS:jj aN 3 aE (fun x=>x.n):=(cH (aw (aw (aw bK rfl) rfl) rfl))
theorem Fo:fz aN 3 aE (fun x y=>{x with n:=y}):=cj (aS (aS (aS db rfl) rfl) rfl) (fun _ _=>rfl)
theorem lh:jj aN 15 (dL (rI .i64)) (fun x=>x.a_):=(cH (aw (aw (aw (aw bK rfl) rfl) rfl) rfl))
theorem yT:fz aN 15 (dL (rI .i64)) (fun x y=>{x with a_:=y}):=cj (aS (aS (aS (aS db rfl) rfl) rfl) rfl) (fun _ _=>rfl)
theorem zi:jj aN 16 (dL (rI .i64)) (fun x=>x.b):=(cH (aw (aw (aw (aw (aw bK rfl) rfl) rfl) rfl) rfl))
theorem yS:fz aN 16 (dL (rI .i64)) (fun x y=>{x with b:=y}):=cj (aS (aS (aS (aS (aS db rfl) rfl) rfl) rfl) rfl) (fun _ _=>rfl)
theorem uT:jj aN 17 (dL (rI .i64)) (fun x=>x.result):=(aw (aw (aw (aw (aw (aw bK rfl) rfl) rfl) rfl) rfl) rfl)
theorem n8:fz aN 17 (dL (rI .i64)) (fun x y=>{x with result:=y}):=cj (aS (aS (aS (aS (aS (aS ax rfl) rfl) rfl) rfl) rfl) rfl) (fun _ _=>rfl)
theorem HX: ∀S,aN.rc S [.slice none 0 0,.slice none 0 0,.slice none 0 0,.int .i64 0,.int .i64 0,.int .i64 0,.int .i64 0,.slice none 0 0,.bool false,.slice none 0 0,.slice none 0 0,.slice none 0 0,.slice none 0 0,.slice none 0 0,.int .i64 0,.slice none 0 0,.slice none 0 0,.slice none 0 0] ((⟨[],[],[],(⟨(0:Int),(0:Int),(0:Int),(0:Int),[],false,(⟨[]⟩:bk),[],[],[],[],(0:Int)⟩:aB),[],[],[]⟩:af)):=fun _=>⟨[.slice none 0 0],[.slice none 0 0,.slice none 0 0,.int .i64 0,.int .i64 0,.int .i64 0,.int .i64 0,.slice none 0 0,.bool false,.slice none 0 0,.slice none 0 0,.slice none 0 0,.slice none 0 0,.slice none 0 0,.int .i64 0,.slice none 0 0,.slice none 0 0,.slice none 0 0],rfl,⟨none,0,rfl,fL _,ju _,.inl rfl⟩,⟨[.slice none 0 0],[.slice none 0 0,.int .i64 0,.int .i64 0,.int .i64 0,.int .i64 0,.slice none 0 0,.bool false,.slice none 0 0,.slice none 0 0,.slice none 0 0,.slice none 0 0,.slice none 0 0,.int .i64 0,.slice none 0 0,.slice none 0 0,.slice none 0 0],rfl,⟨none,0,rfl,fL _,ju _,.inl rfl⟩,⟨[.slice none 0 0],[.int .i64 0,.int .i64 0,.int .i64 0,.int .i64 0,.slice none 0 0,.bool false,.slice none 0 0,.slice none 0 0,.slice none 0 0,.slice none 0 0,.slice none 0 0,.int .i64 0,.slice none 0 0,.slice none 0 0,.slice none 0 0],rfl,⟨_,rfl,rfl⟩,⟨[.int .i64 0,.int .i64 0,.int .i64 0,.int .i64 0,.slice none 0 0,.bool false,.slice none 0 0,.slice none 0 0,.slice none 0 0,.slice none 0 0,.slice none 0 0,.int .i64 0],[.slice none 0 0,.slice none 0 0,.slice none 0 0],rfl,fh _,⟨[.slice none 0 0],[.slice none 0 0,.slice none 0 0],rfl,⟨none,0,rfl,fL _,ju _,.inl rfl⟩,⟨[.slice none 0 0],[.slice none 0 0],rfl,⟨none,0,rfl,fL _,ju _,.inl rfl⟩,⟨none,0,rfl,fL _,ju _,.inl rfl⟩⟩⟩⟩⟩⟩⟩
structure aU where
 Name:ji
 Kind:Int
 deriving DecidableEq,Inhabited
def bR:Rp aU:=kb (bQ rS (rI .i64)) (fun x=>(x.Name,x.Kind))
theorem BN:jj bR 0 rS (fun x=>x.Name):=(cH bK)
theorem vh:fz bR 0 rS (fun x y=>{x with Name:=y}):=cj db (fun _ _=>rfl)
theorem q9:jj bR 1 (rI .i64) (fun x=>x.Kind):=(aw bK rfl)
theorem vg:fz bR 1 (rI .i64) (fun x y=>{x with Kind:=y}):=cj (aS ax rfl) (fun _ _=>rfl)
theorem n7: ∀S,bR.rc S [.string ⟨#[]⟩,.int .i64 0] ((⟨[],(0:Int)⟩:aU)):=fun _=>⟨[.string ⟨#[]⟩],[.int .i64 0],rfl,rfl,rfl⟩
structure xZ where
 word:ji
 kind:Int
 deriving DecidableEq,Inhabited
def pY:Rp xZ:=kb (bQ rS (rI .i64)) (fun x=>(x.word,x.kind))
theorem FW:jj pY 0 rS (fun x=>x.word):=(cH bK)
theorem FV:jj pY 1 (rI .i64) (fun x=>x.kind):=(aw bK rfl)
theorem HY: ∀S,pY.rc S [.string ⟨#[]⟩,.int .i64 0] ((⟨[],(0:Int)⟩:xZ)):=fun _=>⟨[.string ⟨#[]⟩],[.int .i64 0],rfl,rfl,rfl⟩
structure bo where
 Name:ji
 Columns:(List aU)
 Keys:(List Int)
 deriving DecidableEq,Inhabited
def cg:Rp bo:=kb (bQ rS (bQ (dL bR) (dL (rI .i64)))) (fun x=>(x.Name,x.Columns,x.Keys))
theorem xw:jj cg 0 rS (fun x=>x.Name):=(cH bK)
theorem CP:fz cg 0 rS (fun x y=>{x with Name:=y}):=cj db (fun _ _=>rfl)
theorem kX:jj cg 1 (dL bR) (fun x=>x.Columns):=(cH (aw bK rfl))
theorem wN:fz cg 1 (dL bR) (fun x y=>{x with Columns:=y}):=cj (aS db rfl) (fun _ _=>rfl)
theorem qe:jj cg 2 (dL (rI .i64)) (fun x=>x.Keys):=(aw (aw bK rfl) rfl)
theorem wM:fz cg 2 (dL (rI .i64)) (fun x y=>{x with Keys:=y}):=cj (aS (aS ax rfl) rfl) (fun _ _=>rfl)
theorem wx: ∀S,cg.rc S [.string ⟨#[]⟩,.slice none 0 0,.slice none 0 0] ((⟨[],[],[]⟩:bo)):=fun _=>⟨[.string ⟨#[]⟩],[.slice none 0 0,.slice none 0 0],rfl,rfl,⟨[.slice none 0 0],[.slice none 0 0],rfl,⟨none,0,rfl,fL _,ju _,.inl rfl⟩,⟨none,0,rfl,fL _,ju _,.inl rfl⟩⟩⟩
structure bz where
 Tables:(List bo)
 deriving DecidableEq,Inhabited
def ck:Rp bz:=kb (dL cg) (fun x=>(x.Tables))
theorem hG:jj ck 0 (dL cg) (fun x=>x.Tables):=bK
theorem z8:fz ck 0 (dL cg) (fun x y=>{x with Tables:=y}):=cj ax (fun _ _=>rfl)
theorem lK: ∀S,ck.rc S [.slice none 0 0] ((⟨[]⟩:bz)):=fun _=>⟨none,0,rfl,fL _,ju _,.inl rfl⟩
structure cU where
 Nodes:(List aB)
 At:Int
 Way:Int
 Cols:(List Int)
 deriving DecidableEq,Inhabited
def cn:Rp cU:=kb (bQ (dL aE) (bQ (rI .i64) (bQ (rI .i64) (dL (rI .i64))))) (fun x=>(x.Nodes,x.At,x.Way,x.Cols))
theorem ig:jj cn 0 (dL aE) (fun x=>x.Nodes):=(cH bK)
theorem rC:fz cn 0 (dL aE) (fun x y=>{x with Nodes:=y}):=cj db (fun _ _=>rfl)
theorem m5:jj cn 1 (rI .i64) (fun x=>x.At):=(cH (aw bK rfl))
theorem rA:fz cn 1 (rI .i64) (fun x y=>{x with At:=y}):=cj (aS db rfl) (fun _ _=>rfl)
theorem mg:jj cn 2 (rI .i64) (fun x=>x.Way):=(cH (aw (aw bK rfl) rfl))
theorem rz:fz cn 2 (rI .i64) (fun x y=>{x with Way:=y}):=cj (aS (aS db rfl) rfl) (fun _ _=>rfl)
theorem rN:jj cn 3 (dL (rI .i64)) (fun x=>x.Cols):=(aw (aw (aw bK rfl) rfl) rfl)
theorem lD: ∀S,cn.rc S [.slice none 0 0,.int .i64 0,.int .i64 0,.slice none 0 0] ((⟨[],(0:Int),(0:Int),[]⟩:cU)):=fun _=>⟨[.slice none 0 0],[.int .i64 0,.int .i64 0,.slice none 0 0],rfl,⟨none,0,rfl,fL _,ju _,.inl rfl⟩,⟨[.int .i64 0],[.int .i64 0,.slice none 0 0],rfl,rfl,⟨[.int .i64 0],[.slice none 0 0],rfl,rfl,⟨none,0,rfl,fL _,ju _,.inl rfl⟩⟩⟩⟩
structure eM where
 Frags:(List cU)
 deriving DecidableEq,Inhabited
def dk:Rp eM:=kb (dL cn) (fun x=>(x.Frags))
theorem gc:jj dk 0 (dL cn) (fun x=>x.Frags):=bK
theorem uG:fz dk 0 (dL cn) (fun x y=>{x with Frags:=y}):=cj ax (fun _ _=>rfl)
theorem oL: ∀S,dk.rc S [.slice none 0 0] ((⟨[]⟩:eM)):=fun _=>⟨none,0,rfl,fL _,ju _,.inl rfl⟩
structure bH where
 Plan:eM
 c:bz
 kinds:(List (List (List Int)))
 deriving DecidableEq,Inhabited
def eY:Rp bH:=kb (bQ dk (bQ ck (dL (dL (dL (rI .i64)))))) (fun x=>(x.Plan,x.c,x.kinds))
theorem gr:jj eY 0 dk (fun x=>x.Plan):=(cH bK)
theorem qb:jj eY 1 ck (fun x=>x.c):=(cH (aw bK rfl))
theorem tR:jj eY 2 (dL (dL (dL (rI .i64)))) (fun x=>x.kinds):=(aw (aw bK rfl) rfl)
structure bp where
 Kind:Int
 Cols:(List Int)
 deriving DecidableEq,Inhabited
def bN:Rp bp:=kb (bQ (rI .i64) (dL (rI .i64))) (fun x=>(x.Kind,x.Cols))
theorem fO:jj bN 0 (rI .i64) (fun x=>x.Kind):=(cH bK)
theorem l0:fz bN 0 (rI .i64) (fun x y=>{x with Kind:=y}):=cj db (fun _ _=>rfl)
theorem kr:jj bN 1 (dL (rI .i64)) (fun x=>x.Cols):=(aw bK rfl)
theorem uF:fz bN 1 (dL (rI .i64)) (fun x y=>{x with Cols:=y}):=cj (aS ax rfl) (fun _ _=>rfl)
theorem gI: ∀S,bN.rc S [.int .i64 0,.slice none 0 0] ((⟨(0:Int),[]⟩:bp)):=fun _=>⟨[.int .i64 0],[.slice none 0 0],rfl,rfl,⟨none,0,rfl,fL _,ju _,.inl rfl⟩⟩
structure co where
 checker:(Option bH)
 n:aB
 a_:bp
 b:bp
 deriving DecidableEq,Inhabited
def jm:Rp co:=kb (bQ (Gr eY) (bQ aE (bQ bN bN))) (fun x=>(x.checker,x.n,x.a_,x.b))
theorem zh:jj jm 0 (Gr eY) (fun x=>x.checker):=(cH bK)
theorem Fn:fz jm 0 (Gr eY) (fun x y=>{x with checker:=y}):=cj db (fun _ _=>rfl)
theorem rM:jj jm 1 aE (fun x=>x.n):=(cH (aw bK rfl))
theorem Fm:fz jm 1 aE (fun x y=>{x with n:=y}):=cj (aS db rfl) (fun _ _=>rfl)
theorem oc:jj jm 13 bN (fun x=>x.a_):=(cH (aw (aw bK rfl) rfl))
theorem Fl:fz jm 13 bN (fun x y=>{x with a_:=y}):=cj (aS (aS db rfl) rfl) (fun _ _=>rfl)
theorem zg:jj jm 15 bN (fun x=>x.b):=(aw (aw (aw bK rfl) rfl) rfl)
theorem Fk:fz jm 15 bN (fun x y=>{x with b:=y}):=cj (aS (aS (aS ax rfl) rfl) rfl) (fun _ _=>rfl)
theorem HW: ∀S,jm.rc S [.pointer none,.int .i64 0,.int .i64 0,.int .i64 0,.int .i64 0,.slice none 0 0,.bool false,.slice none 0 0,.slice none 0 0,.slice none 0 0,.slice none 0 0,.slice none 0 0,.int .i64 0,.int .i64 0,.slice none 0 0,.int .i64 0,.slice none 0 0] ((⟨none,(⟨(0:Int),(0:Int),(0:Int),(0:Int),[],false,(⟨[]⟩:bk),[],[],[],[],(0:Int)⟩:aB),(⟨(0:Int),[]⟩:bp),(⟨(0:Int),[]⟩:bp)⟩:co)):=fun _=>⟨[.pointer none],[.int .i64 0,.int .i64 0,.int .i64 0,.int .i64 0,.slice none 0 0,.bool false,.slice none 0 0,.slice none 0 0,.slice none 0 0,.slice none 0 0,.slice none 0 0,.int .i64 0,.int .i64 0,.slice none 0 0,.int .i64 0,.slice none 0 0],rfl,⟨_,rfl,rfl⟩,⟨[.int .i64 0,.int .i64 0,.int .i64 0,.int .i64 0,.slice none 0 0,.bool false,.slice none 0 0,.slice none 0 0,.slice none 0 0,.slice none 0 0,.slice none 0 0,.int .i64 0],[.int .i64 0,.slice none 0 0,.int .i64 0,.slice none 0 0],rfl,fh _,⟨[.int .i64 0,.slice none 0 0],[.int .i64 0,.slice none 0 0],rfl,gI _,gI _⟩⟩⟩
structure PM where
 Nodes:(List aB)
 deriving DecidableEq,Inhabited
structure DBase where
 Tables:(List (List (List cO)))
 deriving DecidableEq,Inhabited
structure xT where
 Tables:Value
def fG:Rp xT:=kb rV (fun x=>(x.Tables))
theorem mB:jj fG 0 rV (fun x=>x.Tables):=bK
theorem wJ:fz fG 0 rV (fun x y=>{x with Tables:=y}):=cj ax (fun _ _=>rfl)
def gq(y:bz)(v0:Value):xT:=⟨v0⟩
theorem te: ∀S,fG.rc S [.slice none 0 0] (gq ((⟨[]⟩:bz)) (ai none 0 0)):=fun _=>⟨rfl,rfl⟩
structure OK where
 Frags:Value
structure EO where
 Nodes:Value
def iF:Rp EO:=kb rV (fun x=>(x.Nodes))
theorem oY:jj iF 0 rV (fun x=>x.Nodes):=bK
theorem vf:fz iF 0 rV (fun x y=>{x with Nodes:=y}):=cj ax (fun _ _=>rfl)
def iK(y:bk)(v0:Value):EO:=⟨v0⟩
theorem rx: ∀S,iF.rc S [.slice none 0 0] (iK ((⟨[]⟩:bk)) (ai none 0 0)):=fun _=>⟨rfl,rfl⟩
structure Cl where
 Op:Int
 A:Int
 B:Int
 Table:Int
 Kinds:(List Int)
 Left:Bool
 Cond:bk
 Keys:(List Int)
 Aggs:Value
 Items:(List bk)
 Order:(List iA)
 Limit:Int
def wS:Rp Cl:=kb (bQ (rI .i64) (bQ (rI .i64) (bQ (rI .i64) (bQ (rI .i64) (bQ (dL (rI .i64)) (bQ rB (bQ bc (bQ (dL (rI .i64)) (bQ rV (bQ (dL bc) (bQ (dL fT) (rI .i64)))))))))))) (fun x=>(x.Op,x.A,x.B,x.Table,x.Kinds,x.Left,x.Cond,x.Keys,x.Aggs,x.Items,x.Order,x.Limit))
def xl(y:aB)(v8:Value):Cl:=⟨y.Op,y.A,y.B,y.Table,y.Kinds,y.Left,y.Cond,y.Keys,v8,y.Items,y.Order,y.Limit⟩
structure xS where
 Op:Int
 A:Int
 B:Int
 Table:Int
 Kinds:(List Int)
 Left:Bool
 Cond:bk
 Keys:(List Int)
 Aggs:Value
 Items:Value
 Order:(List iA)
 Limit:Int
def eE:Rp xS:=kb (bQ (rI .i64) (bQ (rI .i64) (bQ (rI .i64) (bQ (rI .i64) (bQ (dL (rI .i64)) (bQ rB (bQ bc (bQ (dL (rI .i64)) (bQ rV (bQ rV (bQ (dL fT) (rI .i64)))))))))))) (fun x=>(x.Op,x.A,x.B,x.Table,x.Kinds,x.Left,x.Cond,x.Keys,x.Aggs,x.Items,x.Order,x.Limit))
theorem xv:jj eE 6 bc (fun x=>x.Cond):=(cH (aw (aw (aw (aw (aw (aw bK rfl) rfl) rfl) rfl) rfl) rfl))
theorem wI:fz eE 6 bc (fun x y=>{x with Cond:=y}):=cj (aS (aS (aS (aS (aS (aS db rfl) rfl) rfl) rfl) rfl) rfl) (fun _ _=>rfl)
theorem q8:jj eE 8 rV (fun x=>x.Aggs):=(cH (aw (aw (aw (aw (aw (aw (aw (aw bK rfl) rfl) rfl) rfl) rfl) rfl) rfl) rfl))
theorem q7:jj eE 9 rV (fun x=>x.Items):=(cH (aw (aw (aw (aw (aw (aw (aw (aw (aw bK rfl) rfl) rfl) rfl) rfl) rfl) rfl) rfl) rfl))
theorem vR:fz eE 10 (dL fT) (fun x y=>{x with Order:=y}):=cj (aS (aS (aS (aS (aS (aS (aS (aS (aS (aS db rfl) rfl) rfl) rfl) rfl) rfl) rfl) rfl) rfl) rfl) (fun _ _=>rfl)
def iU(y:aB)(v8:Value)(v9:Value):xS:=⟨y.Op,y.A,y.B,y.Table,y.Kinds,y.Left,y.Cond,y.Keys,v8,v9,y.Order,y.Limit⟩
theorem zO: ∀S,eE.rc S [.int .i64 0,.int .i64 0,.int .i64 0,.int .i64 0,.slice none 0 0,.bool false,.slice none 0 0,.slice none 0 0,.slice none 0 0,.slice none 0 0,.slice none 0 0,.int .i64 0] (iU ((⟨(0:Int),(0:Int),(0:Int),(0:Int),[],false,(⟨[]⟩:bk),[],[],[],[],(0:Int)⟩:aB)) (ai none 0 0) (ai none 0 0)):=fun _=>⟨[.int .i64 0],[.int .i64 0,.int .i64 0,.int .i64 0,.slice none 0 0,.bool false,.slice none 0 0,.slice none 0 0,.slice none 0 0,.slice none 0 0,.slice none 0 0,.int .i64 0],rfl,rfl,⟨[.int .i64 0],[.int .i64 0,.int .i64 0,.slice none 0 0,.bool false,.slice none 0 0,.slice none 0 0,.slice none 0 0,.slice none 0 0,.slice none 0 0,.int .i64 0],rfl,rfl,⟨[.int .i64 0],[.int .i64 0,.slice none 0 0,.bool false,.slice none 0 0,.slice none 0 0,.slice none 0 0,.slice none 0 0,.slice none 0 0,.int .i64 0],rfl,rfl,⟨[.int .i64 0],[.slice none 0 0,.bool false,.slice none 0 0,.slice none 0 0,.slice none 0 0,.slice none 0 0,.slice none 0 0,.int .i64 0],rfl,rfl,⟨[.slice none 0 0],[.bool false,.slice none 0 0,.slice none 0 0,.slice none 0 0,.slice none 0 0,.slice none 0 0,.int .i64 0],rfl,⟨none,0,rfl,fL _,ju _,.inl rfl⟩,⟨[.bool false],[.slice none 0 0,.slice none 0 0,.slice none 0 0,.slice none 0 0,.slice none 0 0,.int .i64 0],rfl,rfl,⟨[.slice none 0 0],[.slice none 0 0,.slice none 0 0,.slice none 0 0,.slice none 0 0,.int .i64 0],rfl,pO _,⟨[.slice none 0 0],[.slice none 0 0,.slice none 0 0,.slice none 0 0,.int .i64 0],rfl,⟨none,0,rfl,fL _,ju _,.inl rfl⟩,⟨[.slice none 0 0],[.slice none 0 0,.slice none 0 0,.int .i64 0],rfl,⟨rfl,rfl⟩,⟨[.slice none 0 0],[.slice none 0 0,.int .i64 0],rfl,⟨rfl,rfl⟩,⟨[.slice none 0 0],[.int .i64 0],rfl,⟨none,0,rfl,fL _,ju _,.inl rfl⟩,rfl⟩⟩⟩⟩⟩⟩⟩⟩⟩⟩⟩
structure Oy where
 Op:Int
 A:Int
 B:Int
 Table:Int
 Kinds:(List Int)
 Left:Bool
 Cond:bk
 Keys:(List Int)
 Aggs:(List fU)
 Items:Value
 Order:(List iA)
 Limit:Int
structure OJ where
 Kind:Int
 Cols:Value
structure EN where
 nodes:(List aB)
 kinds:(List (List Int))
 open_:(List Int)
 n:aB
 a_:(List Int)
 b:(List Int)
 result:Value
def ba:Rp EN:=kb (bQ (dL aE) (bQ (dL (dL (rI .i64))) (bQ (Ik:Rp (List Int)) (bQ aE (bQ (dL (rI .i64)) (bQ (dL (rI .i64)) rV)))))) (fun x=>(x.nodes,x.kinds,x.open_,x.n,x.a_,x.b,x.result))
theorem q6:jj ba 3 aE (fun x=>x.n):=(cH (aw (aw (aw bK rfl) rfl) rfl))
theorem ia:jj ba 15 (dL (rI .i64)) (fun x=>x.a_):=(cH (aw (aw (aw (aw bK rfl) rfl) rfl) rfl))
theorem BM:jj ba 16 (dL (rI .i64)) (fun x=>x.b):=(cH (aw (aw (aw (aw (aw bK rfl) rfl) rfl) rfl) rfl))
theorem iX:jj ba 17 rV (fun x=>x.result):=(aw (aw (aw (aw (aw (aw bK rfl) rfl) rfl) rfl) rfl) rfl)
def bl(y:af)(v6:Value):EN:=⟨y.nodes,y.kinds,y.open_,y.n,y.a_,y.b,v6⟩
structure xR where
 Plan:eM
 c:bz
 kinds:Value
def fF:Rp xR:=kb (bQ dk (bQ ck rV)) (fun x=>(x.Plan,x.c,x.kinds))
theorem wH:fz fF 0 dk (fun x y=>{x with Plan:=y}):=cj db (fun _ _=>rfl)
theorem wG:fz fF 1 ck (fun x y=>{x with c:=y}):=cj (aS db rfl) (fun _ _=>rfl)
theorem xu:jj fF 2 rV (fun x=>x.kinds):=(aw (aw bK rfl) rfl)
def g9(y:bH)(v2:Value):xR:=⟨y.Plan,y.c,v2⟩
theorem zN: ∀S,fF.rc S [.slice none 0 0,.slice none 0 0,.slice none 0 0] (g9 ((⟨(⟨[]⟩:eM),(⟨[]⟩:bz),[]⟩:bH)) (ai none 0 0)):=fun _=>⟨[.slice none 0 0],[.slice none 0 0,.slice none 0 0],rfl,oL _,⟨[.slice none 0 0],[.slice none 0 0],rfl,lK _,⟨rfl,rfl⟩⟩⟩
structure Ox where
 Nodes:Value
theorem ua{S:SH}{cs:List Value}{y:bz}{v0:Value}{xs0:(List bo)}(k0:(dL cg).rc S [v0] xs0)(h:fG.rc S cs (gq y v0)):ck.rc S cs ((⟨xs0⟩:bz)):=by
 have h0:=h
 exact(by rw [h0.1];exact k0)
theorem rl{S:SH}{cs:List Value}{y:bk}{v0:Value}{xs0:(List bq)}(k0:(dL aQ).rc S [v0] xs0)(h:iF.rc S cs (iK y v0)):bc.rc S cs ((⟨xs0⟩:bk)):=by
 have h0:=h
 exact(by rw [h0.1];exact k0)
theorem t8{S:SH}{cs:List Value}{y:aB}{v8:Value}{v9:Value}{xs8:(List fU)}(k8:(dL cT).rc S [v8] xs8){xs9:(List bk)}(k9:(dL bc).rc S [v9] xs9)(h:eE.rc S cs (iU y v8 v9)):aE.rc S cs ((⟨y.Op,y.A,y.B,y.Table,y.Kinds,y.Left,y.Cond,y.Keys,xs8,xs9,y.Order,y.Limit⟩:aB)):=by
 obtain⟨a0,b0,e0,h0,a1,b1,e1,h1,a2,b2,e2,h2,a3,b3,e3,h3,a4,b4,e4,h4,a5,b5,e5,h5,a6,b6,e6,h6,a7,b7,e7,h7,a8,b8,e8,h8,a9,b9,e9,h9,a10,b10,e10,h10,h11⟩:=h
 exact⟨a0,b0,e0,h0,a1,b1,e1,h1,a2,b2,e2,h2,a3,b3,e3,h3,a4,b4,e4,h4,a5,b5,e5,h5,a6,b6,e6,h6,a7,b7,e7,h7,a8,b8,e8,(by rw [h8.1];exact k8),a9,b9,e9,(by rw [h9.1];exact k9),a10,b10,e10,h10,h11⟩
theorem fJ{S:SH}{cs:List Value}{y:af}{v6:Value}{xs6:(List Int)}(k6:(dL (rI .i64)).rc S [v6] xs6)(h:ba.rc S cs (bl y v6)):aN.rc S cs ((⟨y.nodes,y.kinds,y.open_,y.n,y.a_,y.b,xs6⟩:af)):=by
 obtain⟨a0,b0,e0,h0,a1,b1,e1,h1,a2,b2,e2,h2,a3,b3,e3,h3,a4,b4,e4,h4,a5,b5,e5,h5,h6⟩:=h
 exact⟨a0,b0,e0,h0,a1,b1,e1,h1,a2,b2,e2,h2,a3,b3,e3,h3,a4,b4,e4,h4,a5,b5,e5,h5,(by rw [h6.1];exact k6)⟩
theorem mF{S:SH}{cs:List Value}{y:bH}{v2:Value}{xs2:(List (List (List Int)))}(k2:(dL (dL (dL (rI .i64)))).rc S [v2] xs2)(h:fF.rc S cs (g9 y v2)):eY.rc S cs ((⟨y.Plan,y.c,xs2⟩:bH)):=by
 obtain⟨a0,b0,e0,h0,a1,b1,e1,h1,h2⟩:=h
 exact⟨a0,b0,e0,h0,a1,b1,e1,h1,(by rw [h2.1];exact k2)⟩
theorem sJ(y:aB)(v:Value):mT aE wS 8 rV (y) v (xl y v):=tn (dK (dK (dK (dK (dK (dK (dK (dK (D5 (lb rfl) rfl) rfl) rfl) rfl) rfl) rfl) rfl) rfl) rfl) rfl
theorem pS(y:aB)(v8:Value)(v:Value):mT wS eE 9 rV (xl y v8) v (iU y v8 v):=tn (dK (dK (dK (dK (dK (dK (dK (dK (dK (D5 (lb rfl) rfl) rfl) rfl) rfl) rfl) rfl) rfl) rfl) rfl) rfl) rfl
theorem iP(y:af)(v:Value):mT aN ba 17 rV (y) v (bl y v):=tn (dK (dK (dK (dK (dK (dK (lb rfl) rfl) rfl) rfl) rfl) rfl) rfl) rfl
theorem fN(y:af)(u:Value)(v:Value):mT ba ba 17 rV (bl y u) v (bl y v):=tn (dK (dK (dK (dK (dK (dK (lb rfl) rfl) rfl) rfl) rfl) rfl) rfl) rfl
theorem pR(y:bH)(u:Value)(v:Value):mT fF fF 2 rV (g9 y u) v (g9 y v):=tn (dK (dK (lb rfl) rfl) rfl) rfl
def dm(b:Nat)(x:af)(i:OI):List OE:=[bx (rH aN [(1,ai (i.h 0).1 (i.h 0).2 x.kinds.length),(2,ai (i.h 1).1 (i.h 1).2 x.open_.length)]) 124 b x,gX (dL (rI .i64)) 29 (i.h 0).1 (i.h 0).2 x.kinds,cr (rI .i64) 3 (i.h 1).1 (i.h 1).2 x.open_]
def Ld(b:Nat)(x:af)(i:OI):List OE:=[bx (rH ba [(1,ai (i.h 0).1 (i.h 0).2 x.kinds.length),(2,ai (i.h 1).1 (i.h 1).2 x.open_.length)]) 124 b (bl x (ai (i.h 2).1 (i.h 2).2 x.result.length)),gX (dL (rI .i64)) 29 (i.h 0).1 (i.h 0).2 x.kinds,cr (rI .i64) 3 (i.h 1).1 (i.h 1).2 x.open_,cr (rI .i64) 3 (i.h 2).1 (i.h 2).2 x.result]
def Ll:(List xZ):=[(⟨[98,111,111,108],(1:Int)⟩:xZ),(⟨[105,110,116],(2:Int)⟩:xZ),(⟨[116,101,120,116],(3:Int)⟩:xZ)]
theorem gm0:((0:Nat),([.string ⟨([98,111,111,108]:List UInt8).toArray⟩,.int .i64 (1),.string ⟨([105,110,116]:List UInt8).toArray⟩,.int .i64 (2),.string ⟨([116,101,120,116]:List UInt8).toArray⟩,.int .i64 (3)]:List Value))∈glob:=by simp [glob]
theorem gr0: ∀S,(lN pY 3).rc S ([.string ⟨([98,111,111,108]:List UInt8).toArray⟩,.int .i64 (1),.string ⟨([105,110,116]:List UInt8).toArray⟩,.int .i64 (2),.string ⟨([116,101,120,116]:List UInt8).toArray⟩,.int .i64 (3)]:List Value) Ll:=fun _=>⟨rfl,⟨[.string ⟨([98,111,111,108]:List UInt8).toArray⟩,.int .i64 (1)],[.string ⟨([105,110,116]:List UInt8).toArray⟩,.int .i64 (2),.string ⟨([116,101,120,116]:List UInt8).toArray⟩,.int .i64 (3)],rfl,⟨[.string ⟨([98,111,111,108]:List UInt8).toArray⟩],[.int .i64 (1)],rfl,rfl,rfl⟩,⟨[.string ⟨([105,110,116]:List UInt8).toArray⟩,.int .i64 (2)],[.string ⟨([116,101,120,116]:List UInt8).toArray⟩,.int .i64 (3)],rfl,⟨[.string ⟨([105,110,116]:List UInt8).toArray⟩],[.int .i64 (2)],rfl,rfl,rfl⟩,⟨[.string ⟨([116,101,120,116]:List UInt8).toArray⟩,.int .i64 (3)],[],rfl,⟨[.string ⟨([116,101,120,116]:List UInt8).toArray⟩],[.int .i64 (3)],rfl,rfl,rfl⟩,(rfl:_=[])⟩⟩⟩⟩
def MP:(List ji):=[[83,69,76,69,67,84],[68,73,83,84,73,78,67,84],[70,82,79,77],[76,69,70,84],[74,79,73,78],[79,78],[87,72,69,82,69],[71,82,79,85,80],[66,89],[72,65,86,73,78,71],[85,78,73,79,78],[65,76,76],[79,82,68,69,82],[76,73,77,73,84],[65,83,67],[68,69,83,67],[65,83],[65,78,68],[79,82],[78,79,84],[73,83],[78,85,76,76],[84,82,85,69],[70,65,76,83,69],[67,79,85,78,84],[83,85,77],[77,73,78],[77,65,88]]
theorem gm2:((2:Nat),([.string ⟨([83,69,76,69,67,84]:List UInt8).toArray⟩,.string ⟨([68,73,83,84,73,78,67,84]:List UInt8).toArray⟩,.string ⟨([70,82,79,77]:List UInt8).toArray⟩,.string ⟨([76,69,70,84]:List UInt8).toArray⟩,.string ⟨([74,79,73,78]:List UInt8).toArray⟩,.string ⟨([79,78]:List UInt8).toArray⟩,.string ⟨([87,72,69,82,69]:List UInt8).toArray⟩,.string ⟨([71,82,79,85,80]:List UInt8).toArray⟩,.string ⟨([66,89]:List UInt8).toArray⟩,.string ⟨([72,65,86,73,78,71]:List UInt8).toArray⟩,.string ⟨([85,78,73,79,78]:List UInt8).toArray⟩,.string ⟨([65,76,76]:List UInt8).toArray⟩,.string ⟨([79,82,68,69,82]:List UInt8).toArray⟩,.string ⟨([76,73,77,73,84]:List UInt8).toArray⟩,.string ⟨([65,83,67]:List UInt8).toArray⟩,.string ⟨([68,69,83,67]:List UInt8).toArray⟩,.string ⟨([65,83]:List UInt8).toArray⟩,.string ⟨([65,78,68]:List UInt8).toArray⟩,.string ⟨([79,82]:List UInt8).toArray⟩,.string ⟨([78,79,84]:List UInt8).toArray⟩,.string ⟨([73,83]:List UInt8).toArray⟩,.string ⟨([78,85,76,76]:List UInt8).toArray⟩,.string ⟨([84,82,85,69]:List UInt8).toArray⟩,.string ⟨([70,65,76,83,69]:List UInt8).toArray⟩,.string ⟨([67,79,85,78,84]:List UInt8).toArray⟩,.string ⟨([83,85,77]:List UInt8).toArray⟩,.string ⟨([77,73,78]:List UInt8).toArray⟩,.string ⟨([77,65,88]:List UInt8).toArray⟩]:List Value))∈glob:=by simp [glob]
theorem gr2: ∀S,(lN rS 28).rc S ([.string ⟨([83,69,76,69,67,84]:List UInt8).toArray⟩,.string ⟨([68,73,83,84,73,78,67,84]:List UInt8).toArray⟩,.string ⟨([70,82,79,77]:List UInt8).toArray⟩,.string ⟨([76,69,70,84]:List UInt8).toArray⟩,.string ⟨([74,79,73,78]:List UInt8).toArray⟩,.string ⟨([79,78]:List UInt8).toArray⟩,.string ⟨([87,72,69,82,69]:List UInt8).toArray⟩,.string ⟨([71,82,79,85,80]:List UInt8).toArray⟩,.string ⟨([66,89]:List UInt8).toArray⟩,.string ⟨([72,65,86,73,78,71]:List UInt8).toArray⟩,.string ⟨([85,78,73,79,78]:List UInt8).toArray⟩,.string ⟨([65,76,76]:List UInt8).toArray⟩,.string ⟨([79,82,68,69,82]:List UInt8).toArray⟩,.string ⟨([76,73,77,73,84]:List UInt8).toArray⟩,.string ⟨([65,83,67]:List UInt8).toArray⟩,.string ⟨([68,69,83,67]:List UInt8).toArray⟩,.string ⟨([65,83]:List UInt8).toArray⟩,.string ⟨([65,78,68]:List UInt8).toArray⟩,.string ⟨([79,82]:List UInt8).toArray⟩,.string ⟨([78,79,84]:List UInt8).toArray⟩,.string ⟨([73,83]:List UInt8).toArray⟩,.string ⟨([78,85,76,76]:List UInt8).toArray⟩,.string ⟨([84,82,85,69]:List UInt8).toArray⟩,.string ⟨([70,65,76,83,69]:List UInt8).toArray⟩,.string ⟨([67,79,85,78,84]:List UInt8).toArray⟩,.string ⟨([83,85,77]:List UInt8).toArray⟩,.string ⟨([77,73,78]:List UInt8).toArray⟩,.string ⟨([77,65,88]:List UInt8).toArray⟩]:List Value) MP:=fun _=>⟨rfl,⟨[.string ⟨([83,69,76,69,67,84]:List UInt8).toArray⟩],[.string ⟨([68,73,83,84,73,78,67,84]:List UInt8).toArray⟩,.string ⟨([70,82,79,77]:List UInt8).toArray⟩,.string ⟨([76,69,70,84]:List UInt8).toArray⟩,.string ⟨([74,79,73,78]:List UInt8).toArray⟩,.string ⟨([79,78]:List UInt8).toArray⟩,.string ⟨([87,72,69,82,69]:List UInt8).toArray⟩,.string ⟨([71,82,79,85,80]:List UInt8).toArray⟩,.string ⟨([66,89]:List UInt8).toArray⟩,.string ⟨([72,65,86,73,78,71]:List UInt8).toArray⟩,.string ⟨([85,78,73,79,78]:List UInt8).toArray⟩,.string ⟨([65,76,76]:List UInt8).toArray⟩,.string ⟨([79,82,68,69,82]:List UInt8).toArray⟩,.string ⟨([76,73,77,73,84]:List UInt8).toArray⟩,.string ⟨([65,83,67]:List UInt8).toArray⟩,.string ⟨([68,69,83,67]:List UInt8).toArray⟩,.string ⟨([65,83]:List UInt8).toArray⟩,.string ⟨([65,78,68]:List UInt8).toArray⟩,.string ⟨([79,82]:List UInt8).toArray⟩,.string ⟨([78,79,84]:List UInt8).toArray⟩,.string ⟨([73,83]:List UInt8).toArray⟩,.string ⟨([78,85,76,76]:List UInt8).toArray⟩,.string ⟨([84,82,85,69]:List UInt8).toArray⟩,.string ⟨([70,65,76,83,69]:List UInt8).toArray⟩,.string ⟨([67,79,85,78,84]:List UInt8).toArray⟩,.string ⟨([83,85,77]:List UInt8).toArray⟩,.string ⟨([77,73,78]:List UInt8).toArray⟩,.string ⟨([77,65,88]:List UInt8).toArray⟩],rfl,rfl,⟨[.string ⟨([68,73,83,84,73,78,67,84]:List UInt8).toArray⟩],[.string ⟨([70,82,79,77]:List UInt8).toArray⟩,.string ⟨([76,69,70,84]:List UInt8).toArray⟩,.string ⟨([74,79,73,78]:List UInt8).toArray⟩,.string ⟨([79,78]:List UInt8).toArray⟩,.string ⟨([87,72,69,82,69]:List UInt8).toArray⟩,.string ⟨([71,82,79,85,80]:List UInt8).toArray⟩,.string ⟨([66,89]:List UInt8).toArray⟩,.string ⟨([72,65,86,73,78,71]:List UInt8).toArray⟩,.string ⟨([85,78,73,79,78]:List UInt8).toArray⟩,.string ⟨([65,76,76]:List UInt8).toArray⟩,.string ⟨([79,82,68,69,82]:List UInt8).toArray⟩,.string ⟨([76,73,77,73,84]:List UInt8).toArray⟩,.string ⟨([65,83,67]:List UInt8).toArray⟩,.string ⟨([68,69,83,67]:List UInt8).toArray⟩,.string ⟨([65,83]:List UInt8).toArray⟩,.string ⟨([65,78,68]:List UInt8).toArray⟩,.string ⟨([79,82]:List UInt8).toArray⟩,.string ⟨([78,79,84]:List UInt8).toArray⟩,.string ⟨([73,83]:List UInt8).toArray⟩,.string ⟨([78,85,76,76]:List UInt8).toArray⟩,.string ⟨([84,82,85,69]:List UInt8).toArray⟩,.string ⟨([70,65,76,83,69]:List UInt8).toArray⟩,.string ⟨([67,79,85,78,84]:List UInt8).toArray⟩,.string ⟨([83,85,77]:List UInt8).toArray⟩,.string ⟨([77,73,78]:List UInt8).toArray⟩,.string ⟨([77,65,88]:List UInt8).toArray⟩],rfl,rfl,⟨[.string ⟨([70,82,79,77]:List UInt8).toArray⟩],[.string ⟨([76,69,70,84]:List UInt8).toArray⟩,.string ⟨([74,79,73,78]:List UInt8).toArray⟩,.string ⟨([79,78]:List UInt8).toArray⟩,.string ⟨([87,72,69,82,69]:List UInt8).toArray⟩,.string ⟨([71,82,79,85,80]:List UInt8).toArray⟩,.string ⟨([66,89]:List UInt8).toArray⟩,.string ⟨([72,65,86,73,78,71]:List UInt8).toArray⟩,.string ⟨([85,78,73,79,78]:List UInt8).toArray⟩,.string ⟨([65,76,76]:List UInt8).toArray⟩,.string ⟨([79,82,68,69,82]:List UInt8).toArray⟩,.string ⟨([76,73,77,73,84]:List UInt8).toArray⟩,.string ⟨([65,83,67]:List UInt8).toArray⟩,.string ⟨([68,69,83,67]:List UInt8).toArray⟩,.string ⟨([65,83]:List UInt8).toArray⟩,.string ⟨([65,78,68]:List UInt8).toArray⟩,.string ⟨([79,82]:List UInt8).toArray⟩,.string ⟨([78,79,84]:List UInt8).toArray⟩,.string ⟨([73,83]:List UInt8).toArray⟩,.string ⟨([78,85,76,76]:List UInt8).toArray⟩,.string ⟨([84,82,85,69]:List UInt8).toArray⟩,.string ⟨([70,65,76,83,69]:List UInt8).toArray⟩,.string ⟨([67,79,85,78,84]:List UInt8).toArray⟩,.string ⟨([83,85,77]:List UInt8).toArray⟩,.string ⟨([77,73,78]:List UInt8).toArray⟩,.string ⟨([77,65,88]:List UInt8).toArray⟩],rfl,rfl,⟨[.string ⟨([76,69,70,84]:List UInt8).toArray⟩],[.string ⟨([74,79,73,78]:List UInt8).toArray⟩,.string ⟨([79,78]:List UInt8).toArray⟩,.string ⟨([87,72,69,82,69]:List UInt8).toArray⟩,.string ⟨([71,82,79,85,80]:List UInt8).toArray⟩,.string ⟨([66,89]:List UInt8).toArray⟩,.string ⟨([72,65,86,73,78,71]:List UInt8).toArray⟩,.string ⟨([85,78,73,79,78]:List UInt8).toArray⟩,.string ⟨([65,76,76]:List UInt8).toArray⟩,.string ⟨([79,82,68,69,82]:List UInt8).toArray⟩,.string ⟨([76,73,77,73,84]:List UInt8).toArray⟩,.string ⟨([65,83,67]:List UInt8).toArray⟩,.string ⟨([68,69,83,67]:List UInt8).toArray⟩,.string ⟨([65,83]:List UInt8).toArray⟩,.string ⟨([65,78,68]:List UInt8).toArray⟩,.string ⟨([79,82]:List UInt8).toArray⟩,.string ⟨([78,79,84]:List UInt8).toArray⟩,.string ⟨([73,83]:List UInt8).toArray⟩,.string ⟨([78,85,76,76]:List UInt8).toArray⟩,.string ⟨([84,82,85,69]:List UInt8).toArray⟩,.string ⟨([70,65,76,83,69]:List UInt8).toArray⟩,.string ⟨([67,79,85,78,84]:List UInt8).toArray⟩,.string ⟨([83,85,77]:List UInt8).toArray⟩,.string ⟨([77,73,78]:List UInt8).toArray⟩,.string ⟨([77,65,88]:List UInt8).toArray⟩],rfl,rfl,⟨[.string ⟨([74,79,73,78]:List UInt8).toArray⟩],[.string ⟨([79,78]:List UInt8).toArray⟩,.string ⟨([87,72,69,82,69]:List UInt8).toArray⟩,.string ⟨([71,82,79,85,80]:List UInt8).toArray⟩,.string ⟨([66,89]:List UInt8).toArray⟩,.string ⟨([72,65,86,73,78,71]:List UInt8).toArray⟩,.string ⟨([85,78,73,79,78]:List UInt8).toArray⟩,.string ⟨([65,76,76]:List UInt8).toArray⟩,.string ⟨([79,82,68,69,82]:List UInt8).toArray⟩,.string ⟨([76,73,77,73,84]:List UInt8).toArray⟩,.string ⟨([65,83,67]:List UInt8).toArray⟩,.string ⟨([68,69,83,67]:List UInt8).toArray⟩,.string ⟨([65,83]:List UInt8).toArray⟩,.string ⟨([65,78,68]:List UInt8).toArray⟩,.string ⟨([79,82]:List UInt8).toArray⟩,.string ⟨([78,79,84]:List UInt8).toArray⟩,.string ⟨([73,83]:List UInt8).toArray⟩,.string ⟨([78,85,76,76]:List UInt8).toArray⟩,.string ⟨([84,82,85,69]:List UInt8).toArray⟩,.string ⟨([70,65,76,83,69]:List UInt8).toArray⟩,.string ⟨([67,79,85,78,84]:List UInt8).toArray⟩,.string ⟨([83,85,77]:List UInt8).toArray⟩,.string ⟨([77,73,78]:List UInt8).toArray⟩,.string ⟨([77,65,88]:List UInt8).toArray⟩],rfl,rfl,⟨[.string ⟨([79,78]:List UInt8).toArray⟩],[.string ⟨([87,72,69,82,69]:List UInt8).toArray⟩,.string ⟨([71,82,79,85,80]:List UInt8).toArray⟩,.string ⟨([66,89]:List UInt8).toArray⟩,.string ⟨([72,65,86,73,78,71]:List UInt8).toArray⟩,.string ⟨([85,78,73,79,78]:List UInt8).toArray⟩,.string ⟨([65,76,76]:List UInt8).toArray⟩,.string ⟨([79,82,68,69,82]:List UInt8).toArray⟩,.string ⟨([76,73,77,73,84]:List UInt8).toArray⟩,.string ⟨([65,83,67]:List UInt8).toArray⟩,.string ⟨([68,69,83,67]:List UInt8).toArray⟩,.string ⟨([65,83]:List UInt8).toArray⟩,.string ⟨([65,78,68]:List UInt8).toArray⟩,.string ⟨([79,82]:List UInt8).toArray⟩,.string ⟨([78,79,84]:List UInt8).toArray⟩,.string ⟨([73,83]:List UInt8).toArray⟩,.string ⟨([78,85,76,76]:List UInt8).toArray⟩,.string ⟨([84,82,85,69]:List UInt8).toArray⟩,.string ⟨([70,65,76,83,69]:List UInt8).toArray⟩,.string ⟨([67,79,85,78,84]:List UInt8).toArray⟩,.string ⟨([83,85,77]:List UInt8).toArray⟩,.string ⟨([77,73,78]:List UInt8).toArray⟩,.string ⟨([77,65,88]:List UInt8).toArray⟩],rfl,rfl,⟨[.string ⟨([87,72,69,82,69]:List UInt8).toArray⟩],[.string ⟨([71,82,79,85,80]:List UInt8).toArray⟩,.string ⟨([66,89]:List UInt8).toArray⟩,.string ⟨([72,65,86,73,78,71]:List UInt8).toArray⟩,.string ⟨([85,78,73,79,78]:List UInt8).toArray⟩,.string ⟨([65,76,76]:List UInt8).toArray⟩,.string ⟨([79,82,68,69,82]:List UInt8).toArray⟩,.string ⟨([76,73,77,73,84]:List UInt8).toArray⟩,.string ⟨([65,83,67]:List UInt8).toArray⟩,.string ⟨([68,69,83,67]:List UInt8).toArray⟩,.string ⟨([65,83]:List UInt8).toArray⟩,.string ⟨([65,78,68]:List UInt8).toArray⟩,.string ⟨([79,82]:List UInt8).toArray⟩,.string ⟨([78,79,84]:List UInt8).toArray⟩,.string ⟨([73,83]:List UInt8).toArray⟩,.string ⟨([78,85,76,76]:List UInt8).toArray⟩,.string ⟨([84,82,85,69]:List UInt8).toArray⟩,.string ⟨([70,65,76,83,69]:List UInt8).toArray⟩,.string ⟨([67,79,85,78,84]:List UInt8).toArray⟩,.string ⟨([83,85,77]:List UInt8).toArray⟩,.string ⟨([77,73,78]:List UInt8).toArray⟩,.string ⟨([77,65,88]:List UInt8).toArray⟩],rfl,rfl,⟨[.string ⟨([71,82,79,85,80]:List UInt8).toArray⟩],[.string ⟨([66,89]:List UInt8).toArray⟩,.string ⟨([72,65,86,73,78,71]:List UInt8).toArray⟩,.string ⟨([85,78,73,79,78]:List UInt8).toArray⟩,.string ⟨([65,76,76]:List UInt8).toArray⟩,.string ⟨([79,82,68,69,82]:List UInt8).toArray⟩,.string ⟨([76,73,77,73,84]:List UInt8).toArray⟩,.string ⟨([65,83,67]:List UInt8).toArray⟩,.string ⟨([68,69,83,67]:List UInt8).toArray⟩,.string ⟨([65,83]:List UInt8).toArray⟩,.string ⟨([65,78,68]:List UInt8).toArray⟩,.string ⟨([79,82]:List UInt8).toArray⟩,.string ⟨([78,79,84]:List UInt8).toArray⟩,.string ⟨([73,83]:List UInt8).toArray⟩,.string ⟨([78,85,76,76]:List UInt8).toArray⟩,.string ⟨([84,82,85,69]:List UInt8).toArray⟩,.string ⟨([70,65,76,83,69]:List UInt8).toArray⟩,.string ⟨([67,79,85,78,84]:List UInt8).toArray⟩,.string ⟨([83,85,77]:List UInt8).toArray⟩,.string ⟨([77,73,78]:List UInt8).toArray⟩,.string ⟨([77,65,88]:List UInt8).toArray⟩],rfl,rfl,⟨[.string ⟨([66,89]:List UInt8).toArray⟩],[.string ⟨([72,65,86,73,78,71]:List UInt8).toArray⟩,.string ⟨([85,78,73,79,78]:List UInt8).toArray⟩,.string ⟨([65,76,76]:List UInt8).toArray⟩,.string ⟨([79,82,68,69,82]:List UInt8).toArray⟩,.string ⟨([76,73,77,73,84]:List UInt8).toArray⟩,.string ⟨([65,83,67]:List UInt8).toArray⟩,.string ⟨([68,69,83,67]:List UInt8).toArray⟩,.string ⟨([65,83]:List UInt8).toArray⟩,.string ⟨([65,78,68]:List UInt8).toArray⟩,.string ⟨([79,82]:List UInt8).toArray⟩,.string ⟨([78,79,84]:List UInt8).toArray⟩,.string ⟨([73,83]:List UInt8).toArray⟩,.string ⟨([78,85,76,76]:List UInt8).toArray⟩,.string ⟨([84,82,85,69]:List UInt8).toArray⟩,.string ⟨([70,65,76,83,69]:List UInt8).toArray⟩,.string ⟨([67,79,85,78,84]:List UInt8).toArray⟩,.string ⟨([83,85,77]:List UInt8).toArray⟩,.string ⟨([77,73,78]:List UInt8).toArray⟩,.string ⟨([77,65,88]:List UInt8).toArray⟩],rfl,rfl,⟨[.string ⟨([72,65,86,73,78,71]:List UInt8).toArray⟩],[.string ⟨([85,78,73,79,78]:List UInt8).toArray⟩,.string ⟨([65,76,76]:List UInt8).toArray⟩,.string ⟨([79,82,68,69,82]:List UInt8).toArray⟩,.string ⟨([76,73,77,73,84]:List UInt8).toArray⟩,.string ⟨([65,83,67]:List UInt8).toArray⟩,.string ⟨([68,69,83,67]:List UInt8).toArray⟩,.string ⟨([65,83]:List UInt8).toArray⟩,.string ⟨([65,78,68]:List UInt8).toArray⟩,.string ⟨([79,82]:List UInt8).toArray⟩,.string ⟨([78,79,84]:List UInt8).toArray⟩,.string ⟨([73,83]:List UInt8).toArray⟩,.string ⟨([78,85,76,76]:List UInt8).toArray⟩,.string ⟨([84,82,85,69]:List UInt8).toArray⟩,.string ⟨([70,65,76,83,69]:List UInt8).toArray⟩,.string ⟨([67,79,85,78,84]:List UInt8).toArray⟩,.string ⟨([83,85,77]:List UInt8).toArray⟩,.string ⟨([77,73,78]:List UInt8).toArray⟩,.string ⟨([77,65,88]:List UInt8).toArray⟩],rfl,rfl,⟨[.string ⟨([85,78,73,79,78]:List UInt8).toArray⟩],[.string ⟨([65,76,76]:List UInt8).toArray⟩,.string ⟨([79,82,68,69,82]:List UInt8).toArray⟩,.string ⟨([76,73,77,73,84]:List UInt8).toArray⟩,.string ⟨([65,83,67]:List UInt8).toArray⟩,.string ⟨([68,69,83,67]:List UInt8).toArray⟩,.string ⟨([65,83]:List UInt8).toArray⟩,.string ⟨([65,78,68]:List UInt8).toArray⟩,.string ⟨([79,82]:List UInt8).toArray⟩,.string ⟨([78,79,84]:List UInt8).toArray⟩,.string ⟨([73,83]:List UInt8).toArray⟩,.string ⟨([78,85,76,76]:List UInt8).toArray⟩,.string ⟨([84,82,85,69]:List UInt8).toArray⟩,.string ⟨([70,65,76,83,69]:List UInt8).toArray⟩,.string ⟨([67,79,85,78,84]:List UInt8).toArray⟩,.string ⟨([83,85,77]:List UInt8).toArray⟩,.string ⟨([77,73,78]:List UInt8).toArray⟩,.string ⟨([77,65,88]:List UInt8).toArray⟩],rfl,rfl,⟨[.string ⟨([65,76,76]:List UInt8).toArray⟩],[.string ⟨([79,82,68,69,82]:List UInt8).toArray⟩,.string ⟨([76,73,77,73,84]:List UInt8).toArray⟩,.string ⟨([65,83,67]:List UInt8).toArray⟩,.string ⟨([68,69,83,67]:List UInt8).toArray⟩,.string ⟨([65,83]:List UInt8).toArray⟩,.string ⟨([65,78,68]:List UInt8).toArray⟩,.string ⟨([79,82]:List UInt8).toArray⟩,.string ⟨([78,79,84]:List UInt8).toArray⟩,.string ⟨([73,83]:List UInt8).toArray⟩,.string ⟨([78,85,76,76]:List UInt8).toArray⟩,.string ⟨([84,82,85,69]:List UInt8).toArray⟩,.string ⟨([70,65,76,83,69]:List UInt8).toArray⟩,.string ⟨([67,79,85,78,84]:List UInt8).toArray⟩,.string ⟨([83,85,77]:List UInt8).toArray⟩,.string ⟨([77,73,78]:List UInt8).toArray⟩,.string ⟨([77,65,88]:List UInt8).toArray⟩],rfl,rfl,⟨[.string ⟨([79,82,68,69,82]:List UInt8).toArray⟩],[.string ⟨([76,73,77,73,84]:List UInt8).toArray⟩,.string ⟨([65,83,67]:List UInt8).toArray⟩,.string ⟨([68,69,83,67]:List UInt8).toArray⟩,.string ⟨([65,83]:List UInt8).toArray⟩,.string ⟨([65,78,68]:List UInt8).toArray⟩,.string ⟨([79,82]:List UInt8).toArray⟩,.string ⟨([78,79,84]:List UInt8).toArray⟩,.string ⟨([73,83]:List UInt8).toArray⟩,.string ⟨([78,85,76,76]:List UInt8).toArray⟩,.string ⟨([84,82,85,69]:List UInt8).toArray⟩,.string ⟨([70,65,76,83,69]:List UInt8).toArray⟩,.string ⟨([67,79,85,78,84]:List UInt8).toArray⟩,.string ⟨([83,85,77]:List UInt8).toArray⟩,.string ⟨([77,73,78]:List UInt8).toArray⟩,.string ⟨([77,65,88]:List UInt8).toArray⟩],rfl,rfl,⟨[.string ⟨([76,73,77,73,84]:List UInt8).toArray⟩],[.string ⟨([65,83,67]:List UInt8).toArray⟩,.string ⟨([68,69,83,67]:List UInt8).toArray⟩,.string ⟨([65,83]:List UInt8).toArray⟩,.string ⟨([65,78,68]:List UInt8).toArray⟩,.string ⟨([79,82]:List UInt8).toArray⟩,.string ⟨([78,79,84]:List UInt8).toArray⟩,.string ⟨([73,83]:List UInt8).toArray⟩,.string ⟨([78,85,76,76]:List UInt8).toArray⟩,.string ⟨([84,82,85,69]:List UInt8).toArray⟩,.string ⟨([70,65,76,83,69]:List UInt8).toArray⟩,.string ⟨([67,79,85,78,84]:List UInt8).toArray⟩,.string ⟨([83,85,77]:List UInt8).toArray⟩,.string ⟨([77,73,78]:List UInt8).toArray⟩,.string ⟨([77,65,88]:List UInt8).toArray⟩],rfl,rfl,⟨[.string ⟨([65,83,67]:List UInt8).toArray⟩],[.string ⟨([68,69,83,67]:List UInt8).toArray⟩,.string ⟨([65,83]:List UInt8).toArray⟩,.string ⟨([65,78,68]:List UInt8).toArray⟩,.string ⟨([79,82]:List UInt8).toArray⟩,.string ⟨([78,79,84]:List UInt8).toArray⟩,.string ⟨([73,83]:List UInt8).toArray⟩,.string ⟨([78,85,76,76]:List UInt8).toArray⟩,.string ⟨([84,82,85,69]:List UInt8).toArray⟩,.string ⟨([70,65,76,83,69]:List UInt8).toArray⟩,.string ⟨([67,79,85,78,84]:List UInt8).toArray⟩,.string ⟨([83,85,77]:List UInt8).toArray⟩,.string ⟨([77,73,78]:List UInt8).toArray⟩,.string ⟨([77,65,88]:List UInt8).toArray⟩],rfl,rfl,⟨[.string ⟨([68,69,83,67]:List UInt8).toArray⟩],[.string ⟨([65,83]:List UInt8).toArray⟩,.string ⟨([65,78,68]:List UInt8).toArray⟩,.string ⟨([79,82]:List UInt8).toArray⟩,.string ⟨([78,79,84]:List UInt8).toArray⟩,.string ⟨([73,83]:List UInt8).toArray⟩,.string ⟨([78,85,76,76]:List UInt8).toArray⟩,.string ⟨([84,82,85,69]:List UInt8).toArray⟩,.string ⟨([70,65,76,83,69]:List UInt8).toArray⟩,.string ⟨([67,79,85,78,84]:List UInt8).toArray⟩,.string ⟨([83,85,77]:List UInt8).toArray⟩,.string ⟨([77,73,78]:List UInt8).toArray⟩,.string ⟨([77,65,88]:List UInt8).toArray⟩],rfl,rfl,⟨[.string ⟨([65,83]:List UInt8).toArray⟩],[.string ⟨([65,78,68]:List UInt8).toArray⟩,.string ⟨([79,82]:List UInt8).toArray⟩,.string ⟨([78,79,84]:List UInt8).toArray⟩,.string ⟨([73,83]:List UInt8).toArray⟩,.string ⟨([78,85,76,76]:List UInt8).toArray⟩,.string ⟨([84,82,85,69]:List UInt8).toArray⟩,.string ⟨([70,65,76,83,69]:List UInt8).toArray⟩,.string ⟨([67,79,85,78,84]:List UInt8).toArray⟩,.string ⟨([83,85,77]:List UInt8).toArray⟩,.string ⟨([77,73,78]:List UInt8).toArray⟩,.string ⟨([77,65,88]:List UInt8).toArray⟩],rfl,rfl,⟨[.string ⟨([65,78,68]:List UInt8).toArray⟩],[.string ⟨([79,82]:List UInt8).toArray⟩,.string ⟨([78,79,84]:List UInt8).toArray⟩,.string ⟨([73,83]:List UInt8).toArray⟩,.string ⟨([78,85,76,76]:List UInt8).toArray⟩,.string ⟨([84,82,85,69]:List UInt8).toArray⟩,.string ⟨([70,65,76,83,69]:List UInt8).toArray⟩,.string ⟨([67,79,85,78,84]:List UInt8).toArray⟩,.string ⟨([83,85,77]:List UInt8).toArray⟩,.string ⟨([77,73,78]:List UInt8).toArray⟩,.string ⟨([77,65,88]:List UInt8).toArray⟩],rfl,rfl,⟨[.string ⟨([79,82]:List UInt8).toArray⟩],[.string ⟨([78,79,84]:List UInt8).toArray⟩,.string ⟨([73,83]:List UInt8).toArray⟩,.string ⟨([78,85,76,76]:List UInt8).toArray⟩,.string ⟨([84,82,85,69]:List UInt8).toArray⟩,.string ⟨([70,65,76,83,69]:List UInt8).toArray⟩,.string ⟨([67,79,85,78,84]:List UInt8).toArray⟩,.string ⟨([83,85,77]:List UInt8).toArray⟩,.string ⟨([77,73,78]:List UInt8).toArray⟩,.string ⟨([77,65,88]:List UInt8).toArray⟩],rfl,rfl,⟨[.string ⟨([78,79,84]:List UInt8).toArray⟩],[.string ⟨([73,83]:List UInt8).toArray⟩,.string ⟨([78,85,76,76]:List UInt8).toArray⟩,.string ⟨([84,82,85,69]:List UInt8).toArray⟩,.string ⟨([70,65,76,83,69]:List UInt8).toArray⟩,.string ⟨([67,79,85,78,84]:List UInt8).toArray⟩,.string ⟨([83,85,77]:List UInt8).toArray⟩,.string ⟨([77,73,78]:List UInt8).toArray⟩,.string ⟨([77,65,88]:List UInt8).toArray⟩],rfl,rfl,⟨[.string ⟨([73,83]:List UInt8).toArray⟩],[.string ⟨([78,85,76,76]:List UInt8).toArray⟩,.string ⟨([84,82,85,69]:List UInt8).toArray⟩,.string ⟨([70,65,76,83,69]:List UInt8).toArray⟩,.string ⟨([67,79,85,78,84]:List UInt8).toArray⟩,.string ⟨([83,85,77]:List UInt8).toArray⟩,.string ⟨([77,73,78]:List UInt8).toArray⟩,.string ⟨([77,65,88]:List UInt8).toArray⟩],rfl,rfl,⟨[.string ⟨([78,85,76,76]:List UInt8).toArray⟩],[.string ⟨([84,82,85,69]:List UInt8).toArray⟩,.string ⟨([70,65,76,83,69]:List UInt8).toArray⟩,.string ⟨([67,79,85,78,84]:List UInt8).toArray⟩,.string ⟨([83,85,77]:List UInt8).toArray⟩,.string ⟨([77,73,78]:List UInt8).toArray⟩,.string ⟨([77,65,88]:List UInt8).toArray⟩],rfl,rfl,⟨[.string ⟨([84,82,85,69]:List UInt8).toArray⟩],[.string ⟨([70,65,76,83,69]:List UInt8).toArray⟩,.string ⟨([67,79,85,78,84]:List UInt8).toArray⟩,.string ⟨([83,85,77]:List UInt8).toArray⟩,.string ⟨([77,73,78]:List UInt8).toArray⟩,.string ⟨([77,65,88]:List UInt8).toArray⟩],rfl,rfl,⟨[.string ⟨([70,65,76,83,69]:List UInt8).toArray⟩],[.string ⟨([67,79,85,78,84]:List UInt8).toArray⟩,.string ⟨([83,85,77]:List UInt8).toArray⟩,.string ⟨([77,73,78]:List UInt8).toArray⟩,.string ⟨([77,65,88]:List UInt8).toArray⟩],rfl,rfl,⟨[.string ⟨([67,79,85,78,84]:List UInt8).toArray⟩],[.string ⟨([83,85,77]:List UInt8).toArray⟩,.string ⟨([77,73,78]:List UInt8).toArray⟩,.string ⟨([77,65,88]:List UInt8).toArray⟩],rfl,rfl,⟨[.string ⟨([83,85,77]:List UInt8).toArray⟩],[.string ⟨([77,73,78]:List UInt8).toArray⟩,.string ⟨([77,65,88]:List UInt8).toArray⟩],rfl,rfl,⟨[.string ⟨([77,73,78]:List UInt8).toArray⟩],[.string ⟨([77,65,88]:List UInt8).toArray⟩],rfl,rfl,⟨[.string ⟨([77,65,88]:List UInt8).toArray⟩],[],rfl,rfl,(rfl:_=[])⟩⟩⟩⟩⟩⟩⟩⟩⟩⟩⟩⟩⟩⟩⟩⟩⟩⟩⟩⟩⟩⟩⟩⟩⟩⟩⟩⟩⟩

end Go.Proofs.YtmogpgcfognefaaGreatDoor

