/- cR of this claim: D. -/
import Derived.Test.YtnmjbolollcokaaGreatDoorRcV4
set_option linter.all false
namespace Go.Proofs.YtnmjbolollcokaaGreatDoor
open Go

structure cB where
 Kind:Int
 N:Int
 U:Int
 S:gV
 deriving DecidableEq,Inhabited
def dV:Rp cB:=lb (cc (rI .i64) (cc (rI .i64) (cc (rI .u64) rS))) (fun x=>(x.Kind,x.N,x.U,x.S))
theorem uI:lV dV 0 (rI .i64) (fun x=>x.Kind):=(dn cw)
theorem xv:fL dV 0 (rI .i64) (fun x y=>{x with Kind:=y}):=bQ cJ (fun _ _=>rfl)
theorem xO:lV dV 1 (rI .i64) (fun x=>x.N):=(dn (aM cw rfl))
theorem B3:fL dV 1 (rI .i64) (fun x y=>{x with N:=y}):=bQ (aH cJ rfl) (fun _ _=>rfl)
theorem I8:lV dV 2 (rI .u64) (fun x=>x.U):=(dn (aM (aM cw rfl) rfl))
theorem IA:fL dV 2 (rI .u64) (fun x y=>{x with U:=y}):=bQ (aH (aH cJ rfl) rfl) (fun _ _=>rfl)
theorem xN:lV dV 3 rS (fun x=>x.S):=(aM (aM (aM cw rfl) rfl) rfl)
theorem Iz:fL dV 3 rS (fun x y=>{x with S:=y}):=bQ (aH (aH (aH aj rfl) rfl) rfl) (fun _ _=>rfl)
theorem vh: ∀S,dV.rc S [.int .i64 0,.int .i64 0,.int .u64 0,.string ⟨#[]⟩] ((⟨(0:Int),(0:Int),(0:Int),[]⟩:cB)):=fun _=>⟨[.int .i64 0],[.int .i64 0,.int .u64 0,.string ⟨#[]⟩],rfl,rfl,⟨[.int .i64 0],[.int .u64 0,.string ⟨#[]⟩],rfl,rfl,⟨[.int .u64 0],[.string ⟨#[]⟩],rfl,rfl,rfl⟩⟩⟩
structure aU where
 Tag:Int
 L:Int
 R:Int
 Col:Int
 Value:cB
 deriving DecidableEq,Inhabited
def aY:Rp aU:=lb (cc (rI .i64) (cc (rI .i64) (cc (rI .i64) (cc (rI .i64) dV)))) (fun x=>(x.Tag,x.L,x.R,x.Col,x.Value))
theorem fV:lV aY 0 (rI .i64) (fun x=>x.Tag):=(dn cw)
theorem uL:lV aY 1 (rI .i64) (fun x=>x.L):=(dn (aM cw rfl))
theorem IG:fL aY 1 (rI .i64) (fun x y=>{x with L:=y}):=bQ (aH cJ rfl) (fun _ _=>rfl)
theorem uK:lV aY 2 (rI .i64) (fun x=>x.R):=(dn (aM (aM cw rfl) rfl))
theorem IF:fL aY 2 (rI .i64) (fun x y=>{x with R:=y}):=bQ (aH (aH cJ rfl) rfl) (fun _ _=>rfl)
theorem ju:lV aY 3 (rI .i64) (fun x=>x.Col):=(dn (aM (aM (aM cw rfl) rfl) rfl))
theorem rC:lV aY 4 dV (fun x=>x.Value):=(aM (aM (aM (aM cw rfl) rfl) rfl) rfl)
theorem n7: ∀S,aY.rc S [.int .i64 0,.int .i64 0,.int .i64 0,.int .i64 0,.int .i64 0,.int .i64 0,.int .u64 0,.string ⟨#[]⟩] ((⟨(0:Int),(0:Int),(0:Int),(0:Int),(⟨(0:Int),(0:Int),(0:Int),[]⟩:cB)⟩:aU)):=fun _=>⟨[.int .i64 0],[.int .i64 0,.int .i64 0,.int .i64 0,.int .i64 0,.int .i64 0,.int .u64 0,.string ⟨#[]⟩],rfl,rfl,⟨[.int .i64 0],[.int .i64 0,.int .i64 0,.int .i64 0,.int .i64 0,.int .u64 0,.string ⟨#[]⟩],rfl,rfl,⟨[.int .i64 0],[.int .i64 0,.int .i64 0,.int .i64 0,.int .u64 0,.string ⟨#[]⟩],rfl,rfl,⟨[.int .i64 0],[.int .i64 0,.int .i64 0,.int .u64 0,.string ⟨#[]⟩],rfl,rfl,vh _⟩⟩⟩⟩
structure aT where
 Nodes:(List aU)
 deriving DecidableEq,Inhabited
def bz:Rp aT:=lb (eU aY) (fun x=>(x.Nodes))
theorem db:lV bz 0 (eU aY) (fun x=>x.Nodes):=cw
theorem zM:fL bz 0 (eU aY) (fun x y=>{x with Nodes:=y}):=bQ aj (fun _ _=>rfl)
theorem qF: ∀S,bz.rc S [.slice none 0 0] ((⟨[]⟩:aT)):=fun _=>⟨none,0,rfl,dN _,gx _,.inl rfl⟩
structure gF where
 Tag:Int
 Arg:aT
 deriving DecidableEq,Inhabited
def dW:Rp gF:=lb (cc (rI .i64) bz) (fun x=>(x.Tag,x.Arg))
theorem y4:lV dW 0 (rI .i64) (fun x=>x.Tag):=(dn cw)
theorem GF:fL dW 0 (rI .i64) (fun x y=>{x with Tag:=y}):=bQ cJ (fun _ _=>rfl)
theorem vT:lV dW 1 bz (fun x=>x.Arg):=(aM cw rfl)
theorem MP:fL dW 1 bz (fun x y=>{x with Arg:=y}):=bQ (aH aj rfl) (fun _ _=>rfl)
theorem zF: ∀S,dW.rc S [.int .i64 0,.slice none 0 0] ((⟨(0:Int),(⟨[]⟩:aT)⟩:gF)):=fun _=>⟨[.int .i64 0],[.slice none 0 0],rfl,rfl,qF _⟩
structure kT where
 Col:Int
 Desc:Bool
 deriving DecidableEq,Inhabited
def ke:Rp kT:=lb (cc (rI .i64) rB) (fun x=>(x.Col,x.Desc))
theorem Hy:lV ke 0 (rI .i64) (fun x=>x.Col):=(dn cw)
structure M where
 Op:Int
 A:Int
 B:Int
 Table:Int
 Kinds:(List Int)
 Left:Bool
 Cond:aT
 Keys:(List Int)
 Aggs:(List gF)
 Items:(List aT)
 Order:(List kT)
 Limit:Int
 deriving DecidableEq,Inhabited
def ai:Rp M:=lb (cc (rI .i64) (cc (rI .i64) (cc (rI .i64) (cc (rI .i64) (cc (eU (rI .i64)) (cc rB (cc bz (cc (eU (rI .i64)) (cc (eU dW) (cc (eU bz) (cc (eU ke) (rI .i64)))))))))))) (fun x=>(x.Op,x.A,x.B,x.Table,x.Kinds,x.Left,x.Cond,x.Keys,x.Aggs,x.Items,x.Order,x.Limit))
theorem nw:lV ai 0 (rI .i64) (fun x=>x.Op):=(dn cw)
theorem uk:fL ai 0 (rI .i64) (fun x y=>{x with Op:=y}):=bQ cJ (fun _ _=>rfl)
theorem eo:lV ai 1 (rI .i64) (fun x=>x.A):=(dn (aM cw rfl))
theorem pg:fL ai 1 (rI .i64) (fun x y=>{x with A:=y}):=bQ (aH cJ rfl) (fun _ _=>rfl)
theorem jt:lV ai 2 (rI .i64) (fun x=>x.B):=(dn (aM (aM cw rfl) rfl))
theorem nq:fL ai 2 (rI .i64) (fun x y=>{x with B:=y}):=bQ (aH (aH cJ rfl) rfl) (fun _ _=>rfl)
theorem nv:lV ai 3 (rI .i64) (fun x=>x.Table):=(dn (aM (aM (aM cw rfl) rfl) rfl))
theorem xx:fL ai 3 (rI .i64) (fun x y=>{x with Table:=y}):=bQ (aH (aH (aH cJ rfl) rfl) rfl) (fun _ _=>rfl)
theorem mq:lV ai 4 (eU (rI .i64)) (fun x=>x.Kinds):=(dn (aM (aM (aM (aM cw rfl) rfl) rfl) rfl))
theorem uj:fL ai 4 (eU (rI .i64)) (fun x y=>{x with Kinds:=y}):=bQ (aH (aH (aH (aH cJ rfl) rfl) rfl) rfl) (fun _ _=>rfl)
theorem I9:lV ai 5 rB (fun x=>x.Left):=(dn (aM (aM (aM (aM (aM cw rfl) rfl) rfl) rfl) rfl))
theorem IE:fL ai 5 rB (fun x y=>{x with Left:=y}):=bQ (aH (aH (aH (aH (aH cJ rfl) rfl) rfl) rfl) rfl) (fun _ _=>rfl)
theorem nu:lV ai 6 bz (fun x=>x.Cond):=(dn (aM (aM (aM (aM (aM (aM cw rfl) rfl) rfl) rfl) rfl) rfl))
theorem xw:fL ai 6 bz (fun x y=>{x with Cond:=y}):=bQ (aH (aH (aH (aH (aH (aH cJ rfl) rfl) rfl) rfl) rfl) rfl) (fun _ _=>rfl)
theorem ko:lV ai 7 (eU (rI .i64)) (fun x=>x.Keys):=(dn (aM (aM (aM (aM (aM (aM (aM cw rfl) rfl) rfl) rfl) rfl) rfl) rfl))
theorem B7:fL ai 7 (eU (rI .i64)) (fun x y=>{x with Keys:=y}):=bQ (aH (aH (aH (aH (aH (aH (aH cJ rfl) rfl) rfl) rfl) rfl) rfl) rfl) (fun _ _=>rfl)
theorem li:lV ai 8 (eU dW) (fun x=>x.Aggs):=(dn (aM (aM (aM (aM (aM (aM (aM (aM cw rfl) rfl) rfl) rfl) rfl) rfl) rfl) rfl))
theorem B6:fL ai 8 (eU dW) (fun x y=>{x with Aggs:=y}):=bQ (aH (aH (aH (aH (aH (aH (aH (aH cJ rfl) rfl) rfl) rfl) rfl) rfl) rfl) rfl) (fun _ _=>rfl)
theorem km:lV ai 9 (eU bz) (fun x=>x.Items):=(dn (aM (aM (aM (aM (aM (aM (aM (aM (aM cw rfl) rfl) rfl) rfl) rfl) rfl) rfl) rfl) rfl))
theorem ID:fL ai 9 (eU bz) (fun x y=>{x with Items:=y}):=bQ (aH (aH (aH (aH (aH (aH (aH (aH (aH cJ rfl) rfl) rfl) rfl) rfl) rfl) rfl) rfl) rfl) (fun _ _=>rfl)
theorem qn:lV ai 10 (eU ke) (fun x=>x.Order):=(dn (aM (aM (aM (aM (aM (aM (aM (aM (aM (aM cw rfl) rfl) rfl) rfl) rfl) rfl) rfl) rfl) rfl) rfl))
theorem Aw:fL ai 10 (eU ke) (fun x y=>{x with Order:=y}):=bQ (aH (aH (aH (aH (aH (aH (aH (aH (aH (aH cJ rfl) rfl) rfl) rfl) rfl) rfl) rfl) rfl) rfl) rfl) (fun _ _=>rfl)
theorem vS:lV ai 11 (rI .i64) (fun x=>x.Limit):=(aM (aM (aM (aM (aM (aM (aM (aM (aM (aM (aM cw rfl) rfl) rfl) rfl) rfl) rfl) rfl) rfl) rfl) rfl) rfl)
theorem GE:fL ai 11 (rI .i64) (fun x y=>{x with Limit:=y}):=bQ (aH (aH (aH (aH (aH (aH (aH (aH (aH (aH (aH aj rfl) rfl) rfl) rfl) rfl) rfl) rfl) rfl) rfl) rfl) rfl) (fun _ _=>rfl)
theorem kD: ∀S,ai.rc S [.int .i64 0,.int .i64 0,.int .i64 0,.int .i64 0,.slice none 0 0,.bool false,.slice none 0 0,.slice none 0 0,.slice none 0 0,.slice none 0 0,.slice none 0 0,.int .i64 0] ((⟨(0:Int),(0:Int),(0:Int),(0:Int),[],false,(⟨[]⟩:aT),[],[],[],[],(0:Int)⟩:M)):=fun _=>⟨[.int .i64 0],[.int .i64 0,.int .i64 0,.int .i64 0,.slice none 0 0,.bool false,.slice none 0 0,.slice none 0 0,.slice none 0 0,.slice none 0 0,.slice none 0 0,.int .i64 0],rfl,rfl,⟨[.int .i64 0],[.int .i64 0,.int .i64 0,.slice none 0 0,.bool false,.slice none 0 0,.slice none 0 0,.slice none 0 0,.slice none 0 0,.slice none 0 0,.int .i64 0],rfl,rfl,⟨[.int .i64 0],[.int .i64 0,.slice none 0 0,.bool false,.slice none 0 0,.slice none 0 0,.slice none 0 0,.slice none 0 0,.slice none 0 0,.int .i64 0],rfl,rfl,⟨[.int .i64 0],[.slice none 0 0,.bool false,.slice none 0 0,.slice none 0 0,.slice none 0 0,.slice none 0 0,.slice none 0 0,.int .i64 0],rfl,rfl,⟨[.slice none 0 0],[.bool false,.slice none 0 0,.slice none 0 0,.slice none 0 0,.slice none 0 0,.slice none 0 0,.int .i64 0],rfl,⟨none,0,rfl,dN _,gx _,.inl rfl⟩,⟨[.bool false],[.slice none 0 0,.slice none 0 0,.slice none 0 0,.slice none 0 0,.slice none 0 0,.int .i64 0],rfl,rfl,⟨[.slice none 0 0],[.slice none 0 0,.slice none 0 0,.slice none 0 0,.slice none 0 0,.int .i64 0],rfl,qF _,⟨[.slice none 0 0],[.slice none 0 0,.slice none 0 0,.slice none 0 0,.int .i64 0],rfl,⟨none,0,rfl,dN _,gx _,.inl rfl⟩,⟨[.slice none 0 0],[.slice none 0 0,.slice none 0 0,.int .i64 0],rfl,⟨none,0,rfl,dN _,gx _,.inl rfl⟩,⟨[.slice none 0 0],[.slice none 0 0,.int .i64 0],rfl,⟨none,0,rfl,dN _,gx _,.inl rfl⟩,⟨[.slice none 0 0],[.int .i64 0],rfl,⟨none,0,rfl,dN _,gx _,.inl rfl⟩,rfl⟩⟩⟩⟩⟩⟩⟩⟩⟩⟩⟩
structure bK where
 Nodes:(List M)
 deriving DecidableEq,Inhabited
def cH:Rp bK:=lb (eU ai) (fun x=>(x.Nodes))
theorem js:lV cH 0 (eU ai) (fun x=>x.Nodes):=cw
theorem IC:fL cH 0 (eU ai) (fun x y=>{x with Nodes:=y}):=bQ aj (fun _ _=>rfl)
theorem pX: ∀S,cH.rc S [.slice none 0 0] ((⟨[]⟩:bK)):=fun _=>⟨none,0,rfl,dN _,gx _,.inl rfl⟩
structure aq where
 Logic:bK
 kinds:(List (List Int))
 first:(List Int)
 deriving DecidableEq,Inhabited
def aZ:Rp aq:=lb (cc cH (cc (eU (eU (rI .i64))) (eU (rI .i64)))) (fun x=>(x.Logic,x.kinds,x.first))
theorem uH:lV aZ 0 cH (fun x=>x.Logic):=(dn cw)
theorem E3:fL aZ 0 cH (fun x y=>{x with Logic:=y}):=bQ cJ (fun _ _=>rfl)
theorem Fy:lV aZ 1 (eU (eU (rI .i64))) (fun x=>x.kinds):=(dn (aM cw rfl))
theorem E2:fL aZ 1 (eU (eU (rI .i64))) (fun x y=>{x with kinds:=y}):=bQ (aH cJ rfl) (fun _ _=>rfl)
theorem y0:lV aZ 2 (eU (rI .i64)) (fun x=>x.first):=(aM (aM cw rfl) rfl)
theorem E1:fL aZ 2 (eU (rI .i64)) (fun x y=>{x with first:=y}):=bQ (aH (aH aj rfl) rfl) (fun _ _=>rfl)
theorem Id: ∀S,aZ.rc S [.slice none 0 0,.slice none 0 0,.slice none 0 0] ((⟨(⟨[]⟩:bK),[],[]⟩:aq)):=fun _=>⟨[.slice none 0 0],[.slice none 0 0,.slice none 0 0],rfl,pX _,⟨[.slice none 0 0],[.slice none 0 0],rfl,⟨none,0,rfl,dN _,gx _,.inl rfl⟩,⟨none,0,rfl,dN _,gx _,.inl rfl⟩⟩⟩
structure bn where
 Name:gV
 Kind:Int
 deriving DecidableEq,Inhabited
def dk:Rp bn:=lb (cc rS (rI .i64)) (fun x=>(x.Name,x.Kind))
theorem AO:lV dk 0 rS (fun x=>x.Name):=(dn cw)
theorem vv:fL dk 0 rS (fun x y=>{x with Name:=y}):=bQ cJ (fun _ _=>rfl)
theorem AN:lV dk 1 (rI .i64) (fun x=>x.Kind):=(aM cw rfl)
theorem vu:fL dk 1 (rI .i64) (fun x y=>{x with Kind:=y}):=bQ (aH aj rfl) (fun _ _=>rfl)
theorem o6: ∀S,dk.rc S [.string ⟨#[]⟩,.int .i64 0] ((⟨[],(0:Int)⟩:bn)):=fun _=>⟨[.string ⟨#[]⟩],[.int .i64 0],rfl,rfl,rfl⟩
structure CU where
 word:gV
 kind:Int
 deriving DecidableEq,Inhabited
def ul:Rp CU:=lb (cc rS (rI .i64)) (fun x=>(x.word,x.kind))
theorem LM:lV ul 0 rS (fun x=>x.word):=(dn cw)
theorem LL:lV ul 1 (rI .i64) (fun x=>x.kind):=(aM cw rfl)
theorem OM: ∀S,ul.rc S [.string ⟨#[]⟩,.int .i64 0] ((⟨[],(0:Int)⟩:CU)):=fun _=>⟨[.string ⟨#[]⟩],[.int .i64 0],rfl,rfl,rfl⟩
structure br where
 Name:gV
 Columns:(List bn)
 Keys:(List Int)
 deriving DecidableEq,Inhabited
def di:Rp br:=lb (cc rS (cc (eU dk) (eU (rI .i64)))) (fun x=>(x.Name,x.Columns,x.Keys))
theorem xP:lV di 0 rS (fun x=>x.Name):=(dn cw)
theorem B5:fL di 0 rS (fun x y=>{x with Name:=y}):=bQ cJ (fun _ _=>rfl)
theorem mp:lV di 1 (eU dk) (fun x=>x.Columns):=(dn (aM cw rfl))
theorem B4:fL di 1 (eU dk) (fun x y=>{x with Columns:=y}):=bQ (aH cJ rfl) (fun _ _=>rfl)
theorem uJ:lV di 2 (eU (rI .i64)) (fun x=>x.Keys):=(aM (aM cw rfl) rfl)
theorem IB:fL di 2 (eU (rI .i64)) (fun x y=>{x with Keys:=y}):=bQ (aH (aH aj rfl) rfl) (fun _ _=>rfl)
theorem ym: ∀S,di.rc S [.string ⟨#[]⟩,.slice none 0 0,.slice none 0 0] ((⟨[],[],[]⟩:br)):=fun _=>⟨[.string ⟨#[]⟩],[.slice none 0 0,.slice none 0 0],rfl,rfl,⟨[.slice none 0 0],[.slice none 0 0],rfl,⟨none,0,rfl,dN _,gx _,.inl rfl⟩,⟨none,0,rfl,dN _,gx _,.inl rfl⟩⟩⟩
structure bG where
 Tables:(List br)
 deriving DecidableEq,Inhabited
def eh:Rp bG:=lb (eU di) (fun x=>(x.Tables))
theorem j3:lV eh 0 (eU di) (fun x=>x.Tables):=cw
theorem E4:fL eh 0 (eU di) (fun x y=>{x with Tables:=y}):=bQ aj (fun _ _=>rfl)
theorem xm: ∀S,eh.rc S [.slice none 0 0] ((⟨[]⟩:bG)):=fun _=>⟨none,0,rfl,dN _,gx _,.inl rfl⟩
structure bk where
 Nodes:(List M)
 At:Int
 Way:Int
 Cols:(List Int)
 deriving DecidableEq,Inhabited
def aP:Rp bk:=lb (cc (eU ai) (cc (rI .i64) (cc (rI .i64) (eU (rI .i64))))) (fun x=>(x.Nodes,x.At,x.Way,x.Cols))
theorem wG:lV aP 0 (eU ai) (fun x=>x.Nodes):=(dn cw)
theorem DV:fL aP 0 (eU ai) (fun x y=>{x with Nodes:=y}):=bQ cJ (fun _ _=>rfl)
theorem LN:lV aP 1 (rI .i64) (fun x=>x.At):=(dn (aM cw rfl))
theorem DU:fL aP 1 (rI .i64) (fun x y=>{x with At:=y}):=bQ (aH cJ rfl) (fun _ _=>rfl)
theorem DQ:fL aP 2 (rI .i64) (fun x y=>{x with Way:=y}):=bQ (aH (aH cJ rfl) rfl) (fun _ _=>rfl)
theorem Lb:fL aP 3 (eU (rI .i64)) (fun x y=>{x with Cols:=y}):=bQ (aH (aH (aH aj rfl) rfl) rfl) (fun _ _=>rfl)
theorem Bp: ∀S,aP.rc S [.slice none 0 0,.int .i64 0,.int .i64 0,.slice none 0 0] ((⟨[],(0:Int),(0:Int),[]⟩:bk)):=fun _=>⟨[.slice none 0 0],[.int .i64 0,.int .i64 0,.slice none 0 0],rfl,⟨none,0,rfl,dN _,gx _,.inl rfl⟩,⟨[.int .i64 0],[.int .i64 0,.slice none 0 0],rfl,rfl,⟨[.int .i64 0],[.slice none 0 0],rfl,rfl,⟨none,0,rfl,dN _,gx _,.inl rfl⟩⟩⟩⟩
structure cC where
 Frags:(List bk)
 deriving DecidableEq,Inhabited
def bR:Rp cC:=lb (eU aP) (fun x=>(x.Frags))
theorem jH:lV bR 0 (eU aP) (fun x=>x.Frags):=cw
theorem DP:fL bR 0 (eU aP) (fun x y=>{x with Frags:=y}):=bQ aj (fun _ _=>rfl)
theorem sd: ∀S,bR.rc S [.slice none 0 0] ((⟨[]⟩:cC)):=fun _=>⟨none,0,rfl,dN _,gx _,.inl rfl⟩
structure ay where
 Plan:cC
 tree:bK
 catalog:bG
 kinds:(List (List Int))
 deriving DecidableEq,Inhabited
def aI:Rp ay:=lb (cc bR (cc cH (cc eh (eU (eU (rI .i64)))))) (fun x=>(x.Plan,x.tree,x.catalog,x.kinds))
theorem uG:lV aI 0 bR (fun x=>x.Plan):=(dn cw)
theorem yy:fL aI 0 bR (fun x y=>{x with Plan:=y}):=bQ cJ (fun _ _=>rfl)
theorem Fx:lV aI 1 cH (fun x=>x.tree):=(dn (aM cw rfl))
theorem E0:fL aI 1 cH (fun x y=>{x with tree:=y}):=bQ (aH cJ rfl) (fun _ _=>rfl)
theorem Fw:lV aI 2 eh (fun x=>x.catalog):=(dn (aM (aM cw rfl) rfl))
theorem EZ:fL aI 2 eh (fun x y=>{x with catalog:=y}):=bQ (aH (aH cJ rfl) rfl) (fun _ _=>rfl)
theorem EY:fL aI 3 (eU (eU (rI .i64))) (fun x y=>{x with kinds:=y}):=bQ (aH (aH (aH aj rfl) rfl) rfl) (fun _ _=>rfl)
theorem Ic: ∀S,aI.rc S [.slice none 0 0,.slice none 0 0,.slice none 0 0,.slice none 0 0] ((⟨(⟨[]⟩:cC),(⟨[]⟩:bK),(⟨[]⟩:bG),[]⟩:ay)):=fun _=>⟨[.slice none 0 0],[.slice none 0 0,.slice none 0 0,.slice none 0 0],rfl,sd _,⟨[.slice none 0 0],[.slice none 0 0,.slice none 0 0],rfl,pX _,⟨[.slice none 0 0],[.slice none 0 0],rfl,xm _,⟨none,0,rfl,dN _,gx _,.inl rfl⟩⟩⟩⟩
structure aG where
 nodes:(List M)
 kinds:(List Int)
 at_:Int
 hashed:(List Int)
 deriving DecidableEq,Inhabited
def ah:Rp aG:=lb (cc (eU ai) (cc (eU (rI .i64)) (cc (rI .i64) (eU (rI .i64))))) (fun x=>(x.nodes,x.kinds,x.at_,x.hashed))
theorem z7:lV ah 0 (eU ai) (fun x=>x.nodes):=(dn cw)
theorem DO:fL ah 0 (eU ai) (fun x y=>{x with nodes:=y}):=bQ cJ (fun _ _=>rfl)
theorem z6:lV ah 1 (eU (rI .i64)) (fun x=>x.kinds):=(dn (aM cw rfl))
theorem DN:fL ah 1 (eU (rI .i64)) (fun x y=>{x with kinds:=y}):=bQ (aH cJ rfl) (fun _ _=>rfl)
theorem kM:lV ah 2 (rI .i64) (fun x=>x.at_):=(dn (aM (aM cw rfl) rfl))
theorem DM:fL ah 2 (rI .i64) (fun x y=>{x with at_:=y}):=bQ (aH (aH cJ rfl) rfl) (fun _ _=>rfl)
theorem jf:lV ah 3 (eU (rI .i64)) (fun x=>x.hashed):=(aM (aM (aM cw rfl) rfl) rfl)
theorem wo:fL ah 3 (eU (rI .i64)) (fun x y=>{x with hashed:=y}):=bQ (aH (aH (aH aj rfl) rfl) rfl) (fun _ _=>rfl)
theorem eO: ∀S,ah.rc S [.slice none 0 0,.slice none 0 0,.int .i64 0,.slice none 0 0] ((⟨[],[],(0:Int),[]⟩:aG)):=fun _=>⟨[.slice none 0 0],[.slice none 0 0,.int .i64 0,.slice none 0 0],rfl,⟨none,0,rfl,dN _,gx _,.inl rfl⟩,⟨[.slice none 0 0],[.int .i64 0,.slice none 0 0],rfl,⟨none,0,rfl,dN _,gx _,.inl rfl⟩,⟨[.int .i64 0],[.slice none 0 0],rfl,rfl,⟨none,0,rfl,dN _,gx _,.inl rfl⟩⟩⟩⟩
structure dr where
 Frag:Int
 From:Int
 To:Int
 deriving DecidableEq,Inhabited
def ft:Rp dr:=lb (cc (rI .i64) (cc (rI .i64) (rI .i64))) (fun x=>(x.Frag,x.From,x.To))
theorem GD:fL ft 0 (rI .i64) (fun x y=>{x with Frag:=y}):=bQ cJ (fun _ _=>rfl)
theorem GC:fL ft 1 (rI .i64) (fun x y=>{x with From:=y}):=bQ (aH cJ rfl) (fun _ _=>rfl)
theorem GB:fL ft 2 (rI .i64) (fun x y=>{x with To:=y}):=bQ (aH (aH aj rfl) rfl) (fun _ _=>rfl)
theorem DA: ∀S,ft.rc S [.int .i64 0,.int .i64 0,.int .i64 0] ((⟨(0:Int),(0:Int),(0:Int)⟩:dr)):=fun _=>⟨[.int .i64 0],[.int .i64 0,.int .i64 0],rfl,rfl,⟨[.int .i64 0],[.int .i64 0],rfl,rfl,rfl⟩⟩
structure Wm where
 Frag:Int
 Nodes:Int
 Node:Int
 deriving DecidableEq,Inhabited
structure bS where
 Frags:(List bk)
 Nodes:(List M)
 Kinds:(List Int)
 One:Bool
 Hashed:(List Int)
 deriving DecidableEq,Inhabited
structure HW where
 Nodes:Value
def nr:Rp HW:=lb rV (fun x=>(x.Nodes))
theorem Fu:lV nr 0 rV (fun x=>x.Nodes):=cw
def pw(y:bK)(v0:Value):HW:=⟨v0⟩
theorem Ib: ∀S,nr.rc S [.slice none 0 0] (pw ((⟨[]⟩:bK)) (aD none 0 0)):=fun _=>⟨rfl,rfl⟩
structure KF where
 Nodes:Value
def mE:Rp KF:=lb rV (fun x=>(x.Nodes))
theorem AM:lV mE 0 rV (fun x=>x.Nodes):=cw
theorem GA:fL mE 0 rV (fun x y=>{x with Nodes:=y}):=bQ aj (fun _ _=>rfl)
def nQ(y:aT)(v0:Value):KF:=⟨v0⟩
theorem Dz: ∀S,mE.rc S [.slice none 0 0] (nQ ((⟨[]⟩:aT)) (aD none 0 0)):=fun _=>⟨rfl,rfl⟩
structure HX where
 Op:Int
 A:Int
 B:Int
 Table:Int
 Kinds:(List Int)
 Left:Bool
 Cond:aT
 Keys:(List Int)
 Aggs:Value
 Items:(List aT)
 Order:(List kT)
 Limit:Int
def jl:Rp HX:=lb (cc (rI .i64) (cc (rI .i64) (cc (rI .i64) (cc (rI .i64) (cc (eU (rI .i64)) (cc rB (cc bz (cc (eU (rI .i64)) (cc rV (cc (eU bz) (cc (eU ke) (rI .i64)))))))))))) (fun x=>(x.Op,x.A,x.B,x.Table,x.Kinds,x.Left,x.Cond,x.Keys,x.Aggs,x.Items,x.Order,x.Limit))
theorem EX:fL jl 0 (rI .i64) (fun x y=>{x with Op:=y}):=bQ cJ (fun _ _=>rfl)
theorem EW:fL jl 7 (eU (rI .i64)) (fun x y=>{x with Keys:=y}):=bQ (aH (aH (aH (aH (aH (aH (aH cJ rfl) rfl) rfl) rfl) rfl) rfl) rfl) (fun _ _=>rfl)
theorem Fv:lV jl 8 rV (fun x=>x.Aggs):=(dn (aM (aM (aM (aM (aM (aM (aM (aM cw rfl) rfl) rfl) rfl) rfl) rfl) rfl) rfl))
def ld(y:M)(v8:Value):HX:=⟨y.Op,y.A,y.B,y.Table,y.Kinds,y.Left,y.Cond,y.Keys,v8,y.Items,y.Order,y.Limit⟩
theorem BM: ∀S,jl.rc S [.int .i64 0,.int .i64 0,.int .i64 0,.int .i64 0,.slice none 0 0,.bool false,.slice none 0 0,.slice none 0 0,.slice none 0 0,.slice none 0 0,.slice none 0 0,.int .i64 0] (ld ((⟨(0:Int),(0:Int),(0:Int),(0:Int),[],false,(⟨[]⟩:aT),[],[],[],[],(0:Int)⟩:M)) (aD none 0 0)):=fun _=>⟨[.int .i64 0],[.int .i64 0,.int .i64 0,.int .i64 0,.slice none 0 0,.bool false,.slice none 0 0,.slice none 0 0,.slice none 0 0,.slice none 0 0,.slice none 0 0,.int .i64 0],rfl,rfl,⟨[.int .i64 0],[.int .i64 0,.int .i64 0,.slice none 0 0,.bool false,.slice none 0 0,.slice none 0 0,.slice none 0 0,.slice none 0 0,.slice none 0 0,.int .i64 0],rfl,rfl,⟨[.int .i64 0],[.int .i64 0,.slice none 0 0,.bool false,.slice none 0 0,.slice none 0 0,.slice none 0 0,.slice none 0 0,.slice none 0 0,.int .i64 0],rfl,rfl,⟨[.int .i64 0],[.slice none 0 0,.bool false,.slice none 0 0,.slice none 0 0,.slice none 0 0,.slice none 0 0,.slice none 0 0,.int .i64 0],rfl,rfl,⟨[.slice none 0 0],[.bool false,.slice none 0 0,.slice none 0 0,.slice none 0 0,.slice none 0 0,.slice none 0 0,.int .i64 0],rfl,⟨none,0,rfl,dN _,gx _,.inl rfl⟩,⟨[.bool false],[.slice none 0 0,.slice none 0 0,.slice none 0 0,.slice none 0 0,.slice none 0 0,.int .i64 0],rfl,rfl,⟨[.slice none 0 0],[.slice none 0 0,.slice none 0 0,.slice none 0 0,.slice none 0 0,.int .i64 0],rfl,qF _,⟨[.slice none 0 0],[.slice none 0 0,.slice none 0 0,.slice none 0 0,.int .i64 0],rfl,⟨none,0,rfl,dN _,gx _,.inl rfl⟩,⟨[.slice none 0 0],[.slice none 0 0,.slice none 0 0,.int .i64 0],rfl,⟨rfl,rfl⟩,⟨[.slice none 0 0],[.slice none 0 0,.int .i64 0],rfl,⟨none,0,rfl,dN _,gx _,.inl rfl⟩,⟨[.slice none 0 0],[.int .i64 0],rfl,⟨none,0,rfl,dN _,gx _,.inl rfl⟩,rfl⟩⟩⟩⟩⟩⟩⟩⟩⟩⟩⟩
structure CQ where
 Op:Int
 A:Int
 B:Int
 Table:Int
 Kinds:(List Int)
 Left:Bool
 Cond:aT
 Keys:(List Int)
 Aggs:Value
 Items:Value
 Order:(List kT)
 Limit:Int
def jQ:Rp CQ:=lb (cc (rI .i64) (cc (rI .i64) (cc (rI .i64) (cc (rI .i64) (cc (eU (rI .i64)) (cc rB (cc bz (cc (eU (rI .i64)) (cc rV (cc rV (cc (eU ke) (rI .i64)))))))))))) (fun x=>(x.Op,x.A,x.B,x.Table,x.Kinds,x.Left,x.Cond,x.Keys,x.Aggs,x.Items,x.Order,x.Limit))
theorem rA:lV jQ 8 rV (fun x=>x.Aggs):=(dn (aM (aM (aM (aM (aM (aM (aM (aM cw rfl) rfl) rfl) rfl) rfl) rfl) rfl) rfl))
theorem rz:lV jQ 9 rV (fun x=>x.Items):=(dn (aM (aM (aM (aM (aM (aM (aM (aM (aM cw rfl) rfl) rfl) rfl) rfl) rfl) rfl) rfl) rfl))
def mI(y:M)(v8:Value)(v9:Value):CQ:=⟨y.Op,y.A,y.B,y.Table,y.Kinds,y.Left,y.Cond,y.Keys,v8,v9,y.Order,y.Limit⟩
structure KE where
 nodes:Value
 kinds:(List Int)
 at_:Int
 hashed:(List Int)
def jG:Rp KE:=lb (cc rV (cc (eU (rI .i64)) (cc (rI .i64) (eU (rI .i64))))) (fun x=>(x.nodes,x.kinds,x.at_,x.hashed))
theorem qm:lV jG 0 rV (fun x=>x.nodes):=(dn cw)
theorem Gz:fL jG 1 (eU (rI .i64)) (fun x y=>{x with kinds:=y}):=bQ (aH cJ rfl) (fun _ _=>rfl)
theorem Gy:fL jG 2 (rI .i64) (fun x y=>{x with at_:=y}):=bQ (aH (aH cJ rfl) rfl) (fun _ _=>rfl)
def lO(y:aG)(v0:Value):KE:=⟨v0,y.kinds,y.at_,y.hashed⟩
theorem Dy: ∀S,jG.rc S [.slice none 0 0,.slice none 0 0,.int .i64 0,.slice none 0 0] (lO ((⟨[],[],(0:Int),[]⟩:aG)) (aD none 0 0)):=fun _=>⟨[.slice none 0 0],[.slice none 0 0,.int .i64 0,.slice none 0 0],rfl,⟨rfl,rfl⟩,⟨[.slice none 0 0],[.int .i64 0,.slice none 0 0],rfl,⟨none,0,rfl,dN _,gx _,.inl rfl⟩,⟨[.int .i64 0],[.slice none 0 0],rfl,rfl,⟨none,0,rfl,dN _,gx _,.inl rfl⟩⟩⟩⟩
theorem Bh{S:SH}{cs:List Value}{y:bK}{v0:Value}{xs0:(List M)}(k0:(eU ai).rc S [v0] xs0)(h:nr.rc S cs (pw y v0)):cH.rc S cs ((⟨xs0⟩:bK)):=by
 have h0:=h
 exact(by rw [h0.1];exact k0)
theorem CI{S:SH}{cs:List Value}{y:aT}{v0:Value}{xs0:(List aU)}(k0:(eU aY).rc S [v0] xs0)(h:mE.rc S cs (nQ y v0)):bz.rc S cs ((⟨xs0⟩:aT)):=by
 have h0:=h
 exact(by rw [h0.1];exact k0)
theorem Bi{S:SH}{cs:List Value}{y:M}{v8:Value}{xs8:(List gF)}(k8:(eU dW).rc S [v8] xs8)(h:jl.rc S cs (ld y v8)):ai.rc S cs ((⟨y.Op,y.A,y.B,y.Table,y.Kinds,y.Left,y.Cond,y.Keys,xs8,y.Items,y.Order,y.Limit⟩:M)):=by
 obtain⟨a0,b0,e0,h0,a1,b1,e1,h1,a2,b2,e2,h2,a3,b3,e3,h3,a4,b4,e4,h4,a5,b5,e5,h5,a6,b6,e6,h6,a7,b7,e7,h7,a8,b8,e8,h8,a9,b9,e9,h9,a10,b10,e10,h10,h11⟩:=h
 exact⟨a0,b0,e0,h0,a1,b1,e1,h1,a2,b2,e2,h2,a3,b3,e3,h3,a4,b4,e4,h4,a5,b5,e5,h5,a6,b6,e6,h6,a7,b7,e7,h7,a8,b8,e8,(by rw [h8.1];exact k8),a9,b9,e9,h9,a10,b10,e10,h10,h11⟩
theorem ze{S:SH}{cs:List Value}{y:M}{v8:Value}{v9:Value}{xs8:(List gF)}(k8:(eU dW).rc S [v8] xs8){xs9:(List aT)}(k9:(eU bz).rc S [v9] xs9)(h:jQ.rc S cs (mI y v8 v9)):ai.rc S cs ((⟨y.Op,y.A,y.B,y.Table,y.Kinds,y.Left,y.Cond,y.Keys,xs8,xs9,y.Order,y.Limit⟩:M)):=by
 obtain⟨a0,b0,e0,h0,a1,b1,e1,h1,a2,b2,e2,h2,a3,b3,e3,h3,a4,b4,e4,h4,a5,b5,e5,h5,a6,b6,e6,h6,a7,b7,e7,h7,a8,b8,e8,h8,a9,b9,e9,h9,a10,b10,e10,h10,h11⟩:=h
 exact⟨a0,b0,e0,h0,a1,b1,e1,h1,a2,b2,e2,h2,a3,b3,e3,h3,a4,b4,e4,h4,a5,b5,e5,h5,a6,b6,e6,h6,a7,b7,e7,h7,a8,b8,e8,(by rw [h8.1];exact k8),a9,b9,e9,(by rw [h9.1];exact k9),a10,b10,e10,h10,h11⟩
theorem CH{S:SH}{cs:List Value}{y:aG}{v0:Value}{xs0:(List M)}(k0:(eU ai).rc S [v0] xs0)(h:jG.rc S cs (lO y v0)):ah.rc S cs ((⟨xs0,y.kinds,y.at_,y.hashed⟩:aG)):=by
 obtain⟨a0,b0,e0,h0,a1,b1,e1,h1,a2,b2,e2,h2,h3⟩:=h
 exact⟨a0,b0,e0,(by rw [h0.1];exact k0),a1,b1,e1,h1,a2,b2,e2,h2,h3⟩
theorem vm(y:bK)(u:Value)(v:Value):rG nr nr 0 rV (pw y u) v (pw y v):=yx (nJ rfl) rfl
theorem xu(y:M)(v:Value):rG ai jl 8 rV (y) v (ld y v):=yx (gh (gh (gh (gh (gh (gh (gh (gh (Bq (nJ rfl) rfl) rfl) rfl) rfl) rfl) rfl) rfl) rfl) rfl) rfl
theorem vn(y:M)(u:Value)(v:Value):rG jl jl 8 rV (ld y u) v (ld y v):=yx (gh (gh (gh (gh (gh (gh (gh (gh (Bq (nJ rfl) rfl) rfl) rfl) rfl) rfl) rfl) rfl) rfl) rfl) rfl
theorem uf(y:M)(v8:Value)(v:Value):rG jl jQ 9 rV (ld y v8) v (mI y v8 v):=yx (gh (gh (gh (gh (gh (gh (gh (gh (gh (Bq (nJ rfl) rfl) rfl) rfl) rfl) rfl) rfl) rfl) rfl) rfl) rfl) rfl
theorem qB(y:aG)(u:Value)(v:Value):rG jG jG 0 rV (lO y u) v (lO y v):=yx (Bq (nJ rfl) rfl) rfl
def dc(b:Nat)(x:aq)(i:OI):List OE:=[bx (rH aZ [(1,aD (i.h 0).1 (i.h 0).2 x.kinds.length),(2,aD (i.h 1).1 (i.h 1).2 x.first.length)]) 123 b x,cv (eU (rI .i64)) 42 (i.h 0).1 (i.h 0).2 x.kinds,cv (rI .i64) 3 (i.h 1).1 (i.h 1).2 x.first]
def fY(b:Nat)(x:ay)(i:OI):List OE:=[bx (rH aI [(0,aD (i.h 0).1 (i.h 0).2 x.Plan.Frags.length),(3,aD (i.h 1).1 (i.h 1).2 x.kinds.length)]) 91 b x,cv aP 74 (i.h 0).1 (i.h 0).2 x.Plan.Frags,cv (eU (rI .i64)) 42 (i.h 1).1 (i.h 1).2 x.kinds]
def RT:(List CU):=[(⟨[98,111,111,108],(1:Int)⟩:CU),(⟨[105,110,116],(2:Int)⟩:CU),(⟨[116,101,120,116],(3:Int)⟩:CU)]
theorem gm0:((0:Nat),([.string ⟨([98,111,111,108]:List UInt8).toArray⟩,.int .i64 (1),.string ⟨([105,110,116]:List UInt8).toArray⟩,.int .i64 (2),.string ⟨([116,101,120,116]:List UInt8).toArray⟩,.int .i64 (3)]:List Value))∈glob:=by simp [glob]
theorem gr0: ∀S,(s5 ul 3).rc S ([.string ⟨([98,111,111,108]:List UInt8).toArray⟩,.int .i64 (1),.string ⟨([105,110,116]:List UInt8).toArray⟩,.int .i64 (2),.string ⟨([116,101,120,116]:List UInt8).toArray⟩,.int .i64 (3)]:List Value) RT:=fun _=>⟨rfl,⟨[.string ⟨([98,111,111,108]:List UInt8).toArray⟩,.int .i64 (1)],[.string ⟨([105,110,116]:List UInt8).toArray⟩,.int .i64 (2),.string ⟨([116,101,120,116]:List UInt8).toArray⟩,.int .i64 (3)],rfl,⟨[.string ⟨([98,111,111,108]:List UInt8).toArray⟩],[.int .i64 (1)],rfl,rfl,rfl⟩,⟨[.string ⟨([105,110,116]:List UInt8).toArray⟩,.int .i64 (2)],[.string ⟨([116,101,120,116]:List UInt8).toArray⟩,.int .i64 (3)],rfl,⟨[.string ⟨([105,110,116]:List UInt8).toArray⟩],[.int .i64 (2)],rfl,rfl,rfl⟩,⟨[.string ⟨([116,101,120,116]:List UInt8).toArray⟩,.int .i64 (3)],[],rfl,⟨[.string ⟨([116,101,120,116]:List UInt8).toArray⟩],[.int .i64 (3)],rfl,rfl,rfl⟩,(rfl:_=[])⟩⟩⟩⟩
def TG:(List gV):=[[83,69,76,69,67,84],[68,73,83,84,73,78,67,84],[70,82,79,77],[76,69,70,84],[74,79,73,78],[79,78],[87,72,69,82,69],[71,82,79,85,80],[66,89],[72,65,86,73,78,71],[85,78,73,79,78],[65,76,76],[79,82,68,69,82],[76,73,77,73,84],[65,83,67],[68,69,83,67],[65,83],[65,78,68],[79,82],[78,79,84],[73,83],[78,85,76,76],[84,82,85,69],[70,65,76,83,69],[67,79,85,78,84],[83,85,77],[77,73,78],[77,65,88]]
theorem gm1:((1:Nat),([.string ⟨([83,69,76,69,67,84]:List UInt8).toArray⟩,.string ⟨([68,73,83,84,73,78,67,84]:List UInt8).toArray⟩,.string ⟨([70,82,79,77]:List UInt8).toArray⟩,.string ⟨([76,69,70,84]:List UInt8).toArray⟩,.string ⟨([74,79,73,78]:List UInt8).toArray⟩,.string ⟨([79,78]:List UInt8).toArray⟩,.string ⟨([87,72,69,82,69]:List UInt8).toArray⟩,.string ⟨([71,82,79,85,80]:List UInt8).toArray⟩,.string ⟨([66,89]:List UInt8).toArray⟩,.string ⟨([72,65,86,73,78,71]:List UInt8).toArray⟩,.string ⟨([85,78,73,79,78]:List UInt8).toArray⟩,.string ⟨([65,76,76]:List UInt8).toArray⟩,.string ⟨([79,82,68,69,82]:List UInt8).toArray⟩,.string ⟨([76,73,77,73,84]:List UInt8).toArray⟩,.string ⟨([65,83,67]:List UInt8).toArray⟩,.string ⟨([68,69,83,67]:List UInt8).toArray⟩,.string ⟨([65,83]:List UInt8).toArray⟩,.string ⟨([65,78,68]:List UInt8).toArray⟩,.string ⟨([79,82]:List UInt8).toArray⟩,.string ⟨([78,79,84]:List UInt8).toArray⟩,.string ⟨([73,83]:List UInt8).toArray⟩,.string ⟨([78,85,76,76]:List UInt8).toArray⟩,.string ⟨([84,82,85,69]:List UInt8).toArray⟩,.string ⟨([70,65,76,83,69]:List UInt8).toArray⟩,.string ⟨([67,79,85,78,84]:List UInt8).toArray⟩,.string ⟨([83,85,77]:List UInt8).toArray⟩,.string ⟨([77,73,78]:List UInt8).toArray⟩,.string ⟨([77,65,88]:List UInt8).toArray⟩]:List Value))∈glob:=by simp [glob]
theorem gr1: ∀S,(s5 rS 28).rc S ([.string ⟨([83,69,76,69,67,84]:List UInt8).toArray⟩,.string ⟨([68,73,83,84,73,78,67,84]:List UInt8).toArray⟩,.string ⟨([70,82,79,77]:List UInt8).toArray⟩,.string ⟨([76,69,70,84]:List UInt8).toArray⟩,.string ⟨([74,79,73,78]:List UInt8).toArray⟩,.string ⟨([79,78]:List UInt8).toArray⟩,.string ⟨([87,72,69,82,69]:List UInt8).toArray⟩,.string ⟨([71,82,79,85,80]:List UInt8).toArray⟩,.string ⟨([66,89]:List UInt8).toArray⟩,.string ⟨([72,65,86,73,78,71]:List UInt8).toArray⟩,.string ⟨([85,78,73,79,78]:List UInt8).toArray⟩,.string ⟨([65,76,76]:List UInt8).toArray⟩,.string ⟨([79,82,68,69,82]:List UInt8).toArray⟩,.string ⟨([76,73,77,73,84]:List UInt8).toArray⟩,.string ⟨([65,83,67]:List UInt8).toArray⟩,.string ⟨([68,69,83,67]:List UInt8).toArray⟩,.string ⟨([65,83]:List UInt8).toArray⟩,.string ⟨([65,78,68]:List UInt8).toArray⟩,.string ⟨([79,82]:List UInt8).toArray⟩,.string ⟨([78,79,84]:List UInt8).toArray⟩,.string ⟨([73,83]:List UInt8).toArray⟩,.string ⟨([78,85,76,76]:List UInt8).toArray⟩,.string ⟨([84,82,85,69]:List UInt8).toArray⟩,.string ⟨([70,65,76,83,69]:List UInt8).toArray⟩,.string ⟨([67,79,85,78,84]:List UInt8).toArray⟩,.string ⟨([83,85,77]:List UInt8).toArray⟩,.string ⟨([77,73,78]:List UInt8).toArray⟩,.string ⟨([77,65,88]:List UInt8).toArray⟩]:List Value) TG:=fun _=>⟨rfl,⟨[.string ⟨([83,69,76,69,67,84]:List UInt8).toArray⟩],[.string ⟨([68,73,83,84,73,78,67,84]:List UInt8).toArray⟩,.string ⟨([70,82,79,77]:List UInt8).toArray⟩,.string ⟨([76,69,70,84]:List UInt8).toArray⟩,.string ⟨([74,79,73,78]:List UInt8).toArray⟩,.string ⟨([79,78]:List UInt8).toArray⟩,.string ⟨([87,72,69,82,69]:List UInt8).toArray⟩,.string ⟨([71,82,79,85,80]:List UInt8).toArray⟩,.string ⟨([66,89]:List UInt8).toArray⟩,.string ⟨([72,65,86,73,78,71]:List UInt8).toArray⟩,.string ⟨([85,78,73,79,78]:List UInt8).toArray⟩,.string ⟨([65,76,76]:List UInt8).toArray⟩,.string ⟨([79,82,68,69,82]:List UInt8).toArray⟩,.string ⟨([76,73,77,73,84]:List UInt8).toArray⟩,.string ⟨([65,83,67]:List UInt8).toArray⟩,.string ⟨([68,69,83,67]:List UInt8).toArray⟩,.string ⟨([65,83]:List UInt8).toArray⟩,.string ⟨([65,78,68]:List UInt8).toArray⟩,.string ⟨([79,82]:List UInt8).toArray⟩,.string ⟨([78,79,84]:List UInt8).toArray⟩,.string ⟨([73,83]:List UInt8).toArray⟩,.string ⟨([78,85,76,76]:List UInt8).toArray⟩,.string ⟨([84,82,85,69]:List UInt8).toArray⟩,.string ⟨([70,65,76,83,69]:List UInt8).toArray⟩,.string ⟨([67,79,85,78,84]:List UInt8).toArray⟩,.string ⟨([83,85,77]:List UInt8).toArray⟩,.string ⟨([77,73,78]:List UInt8).toArray⟩,.string ⟨([77,65,88]:List UInt8).toArray⟩],rfl,rfl,⟨[.string ⟨([68,73,83,84,73,78,67,84]:List UInt8).toArray⟩],[.string ⟨([70,82,79,77]:List UInt8).toArray⟩,.string ⟨([76,69,70,84]:List UInt8).toArray⟩,.string ⟨([74,79,73,78]:List UInt8).toArray⟩,.string ⟨([79,78]:List UInt8).toArray⟩,.string ⟨([87,72,69,82,69]:List UInt8).toArray⟩,.string ⟨([71,82,79,85,80]:List UInt8).toArray⟩,.string ⟨([66,89]:List UInt8).toArray⟩,.string ⟨([72,65,86,73,78,71]:List UInt8).toArray⟩,.string ⟨([85,78,73,79,78]:List UInt8).toArray⟩,.string ⟨([65,76,76]:List UInt8).toArray⟩,.string ⟨([79,82,68,69,82]:List UInt8).toArray⟩,.string ⟨([76,73,77,73,84]:List UInt8).toArray⟩,.string ⟨([65,83,67]:List UInt8).toArray⟩,.string ⟨([68,69,83,67]:List UInt8).toArray⟩,.string ⟨([65,83]:List UInt8).toArray⟩,.string ⟨([65,78,68]:List UInt8).toArray⟩,.string ⟨([79,82]:List UInt8).toArray⟩,.string ⟨([78,79,84]:List UInt8).toArray⟩,.string ⟨([73,83]:List UInt8).toArray⟩,.string ⟨([78,85,76,76]:List UInt8).toArray⟩,.string ⟨([84,82,85,69]:List UInt8).toArray⟩,.string ⟨([70,65,76,83,69]:List UInt8).toArray⟩,.string ⟨([67,79,85,78,84]:List UInt8).toArray⟩,.string ⟨([83,85,77]:List UInt8).toArray⟩,.string ⟨([77,73,78]:List UInt8).toArray⟩,.string ⟨([77,65,88]:List UInt8).toArray⟩],rfl,rfl,⟨[.string ⟨([70,82,79,77]:List UInt8).toArray⟩],[.string ⟨([76,69,70,84]:List UInt8).toArray⟩,.string ⟨([74,79,73,78]:List UInt8).toArray⟩,.string ⟨([79,78]:List UInt8).toArray⟩,.string ⟨([87,72,69,82,69]:List UInt8).toArray⟩,.string ⟨([71,82,79,85,80]:List UInt8).toArray⟩,.string ⟨([66,89]:List UInt8).toArray⟩,.string ⟨([72,65,86,73,78,71]:List UInt8).toArray⟩,.string ⟨([85,78,73,79,78]:List UInt8).toArray⟩,.string ⟨([65,76,76]:List UInt8).toArray⟩,.string ⟨([79,82,68,69,82]:List UInt8).toArray⟩,.string ⟨([76,73,77,73,84]:List UInt8).toArray⟩,.string ⟨([65,83,67]:List UInt8).toArray⟩,.string ⟨([68,69,83,67]:List UInt8).toArray⟩,.string ⟨([65,83]:List UInt8).toArray⟩,.string ⟨([65,78,68]:List UInt8).toArray⟩,.string ⟨([79,82]:List UInt8).toArray⟩,.string ⟨([78,79,84]:List UInt8).toArray⟩,.string ⟨([73,83]:List UInt8).toArray⟩,.string ⟨([78,85,76,76]:List UInt8).toArray⟩,.string ⟨([84,82,85,69]:List UInt8).toArray⟩,.string ⟨([70,65,76,83,69]:List UInt8).toArray⟩,.string ⟨([67,79,85,78,84]:List UInt8).toArray⟩,.string ⟨([83,85,77]:List UInt8).toArray⟩,.string ⟨([77,73,78]:List UInt8).toArray⟩,.string ⟨([77,65,88]:List UInt8).toArray⟩],rfl,rfl,⟨[.string ⟨([76,69,70,84]:List UInt8).toArray⟩],[.string ⟨([74,79,73,78]:List UInt8).toArray⟩,.string ⟨([79,78]:List UInt8).toArray⟩,.string ⟨([87,72,69,82,69]:List UInt8).toArray⟩,.string ⟨([71,82,79,85,80]:List UInt8).toArray⟩,.string ⟨([66,89]:List UInt8).toArray⟩,.string ⟨([72,65,86,73,78,71]:List UInt8).toArray⟩,.string ⟨([85,78,73,79,78]:List UInt8).toArray⟩,.string ⟨([65,76,76]:List UInt8).toArray⟩,.string ⟨([79,82,68,69,82]:List UInt8).toArray⟩,.string ⟨([76,73,77,73,84]:List UInt8).toArray⟩,.string ⟨([65,83,67]:List UInt8).toArray⟩,.string ⟨([68,69,83,67]:List UInt8).toArray⟩,.string ⟨([65,83]:List UInt8).toArray⟩,.string ⟨([65,78,68]:List UInt8).toArray⟩,.string ⟨([79,82]:List UInt8).toArray⟩,.string ⟨([78,79,84]:List UInt8).toArray⟩,.string ⟨([73,83]:List UInt8).toArray⟩,.string ⟨([78,85,76,76]:List UInt8).toArray⟩,.string ⟨([84,82,85,69]:List UInt8).toArray⟩,.string ⟨([70,65,76,83,69]:List UInt8).toArray⟩,.string ⟨([67,79,85,78,84]:List UInt8).toArray⟩,.string ⟨([83,85,77]:List UInt8).toArray⟩,.string ⟨([77,73,78]:List UInt8).toArray⟩,.string ⟨([77,65,88]:List UInt8).toArray⟩],rfl,rfl,⟨[.string ⟨([74,79,73,78]:List UInt8).toArray⟩],[.string ⟨([79,78]:List UInt8).toArray⟩,.string ⟨([87,72,69,82,69]:List UInt8).toArray⟩,.string ⟨([71,82,79,85,80]:List UInt8).toArray⟩,.string ⟨([66,89]:List UInt8).toArray⟩,.string ⟨([72,65,86,73,78,71]:List UInt8).toArray⟩,.string ⟨([85,78,73,79,78]:List UInt8).toArray⟩,.string ⟨([65,76,76]:List UInt8).toArray⟩,.string ⟨([79,82,68,69,82]:List UInt8).toArray⟩,.string ⟨([76,73,77,73,84]:List UInt8).toArray⟩,.string ⟨([65,83,67]:List UInt8).toArray⟩,.string ⟨([68,69,83,67]:List UInt8).toArray⟩,.string ⟨([65,83]:List UInt8).toArray⟩,.string ⟨([65,78,68]:List UInt8).toArray⟩,.string ⟨([79,82]:List UInt8).toArray⟩,.string ⟨([78,79,84]:List UInt8).toArray⟩,.string ⟨([73,83]:List UInt8).toArray⟩,.string ⟨([78,85,76,76]:List UInt8).toArray⟩,.string ⟨([84,82,85,69]:List UInt8).toArray⟩,.string ⟨([70,65,76,83,69]:List UInt8).toArray⟩,.string ⟨([67,79,85,78,84]:List UInt8).toArray⟩,.string ⟨([83,85,77]:List UInt8).toArray⟩,.string ⟨([77,73,78]:List UInt8).toArray⟩,.string ⟨([77,65,88]:List UInt8).toArray⟩],rfl,rfl,⟨[.string ⟨([79,78]:List UInt8).toArray⟩],[.string ⟨([87,72,69,82,69]:List UInt8).toArray⟩,.string ⟨([71,82,79,85,80]:List UInt8).toArray⟩,.string ⟨([66,89]:List UInt8).toArray⟩,.string ⟨([72,65,86,73,78,71]:List UInt8).toArray⟩,.string ⟨([85,78,73,79,78]:List UInt8).toArray⟩,.string ⟨([65,76,76]:List UInt8).toArray⟩,.string ⟨([79,82,68,69,82]:List UInt8).toArray⟩,.string ⟨([76,73,77,73,84]:List UInt8).toArray⟩,.string ⟨([65,83,67]:List UInt8).toArray⟩,.string ⟨([68,69,83,67]:List UInt8).toArray⟩,.string ⟨([65,83]:List UInt8).toArray⟩,.string ⟨([65,78,68]:List UInt8).toArray⟩,.string ⟨([79,82]:List UInt8).toArray⟩,.string ⟨([78,79,84]:List UInt8).toArray⟩,.string ⟨([73,83]:List UInt8).toArray⟩,.string ⟨([78,85,76,76]:List UInt8).toArray⟩,.string ⟨([84,82,85,69]:List UInt8).toArray⟩,.string ⟨([70,65,76,83,69]:List UInt8).toArray⟩,.string ⟨([67,79,85,78,84]:List UInt8).toArray⟩,.string ⟨([83,85,77]:List UInt8).toArray⟩,.string ⟨([77,73,78]:List UInt8).toArray⟩,.string ⟨([77,65,88]:List UInt8).toArray⟩],rfl,rfl,⟨[.string ⟨([87,72,69,82,69]:List UInt8).toArray⟩],[.string ⟨([71,82,79,85,80]:List UInt8).toArray⟩,.string ⟨([66,89]:List UInt8).toArray⟩,.string ⟨([72,65,86,73,78,71]:List UInt8).toArray⟩,.string ⟨([85,78,73,79,78]:List UInt8).toArray⟩,.string ⟨([65,76,76]:List UInt8).toArray⟩,.string ⟨([79,82,68,69,82]:List UInt8).toArray⟩,.string ⟨([76,73,77,73,84]:List UInt8).toArray⟩,.string ⟨([65,83,67]:List UInt8).toArray⟩,.string ⟨([68,69,83,67]:List UInt8).toArray⟩,.string ⟨([65,83]:List UInt8).toArray⟩,.string ⟨([65,78,68]:List UInt8).toArray⟩,.string ⟨([79,82]:List UInt8).toArray⟩,.string ⟨([78,79,84]:List UInt8).toArray⟩,.string ⟨([73,83]:List UInt8).toArray⟩,.string ⟨([78,85,76,76]:List UInt8).toArray⟩,.string ⟨([84,82,85,69]:List UInt8).toArray⟩,.string ⟨([70,65,76,83,69]:List UInt8).toArray⟩,.string ⟨([67,79,85,78,84]:List UInt8).toArray⟩,.string ⟨([83,85,77]:List UInt8).toArray⟩,.string ⟨([77,73,78]:List UInt8).toArray⟩,.string ⟨([77,65,88]:List UInt8).toArray⟩],rfl,rfl,⟨[.string ⟨([71,82,79,85,80]:List UInt8).toArray⟩],[.string ⟨([66,89]:List UInt8).toArray⟩,.string ⟨([72,65,86,73,78,71]:List UInt8).toArray⟩,.string ⟨([85,78,73,79,78]:List UInt8).toArray⟩,.string ⟨([65,76,76]:List UInt8).toArray⟩,.string ⟨([79,82,68,69,82]:List UInt8).toArray⟩,.string ⟨([76,73,77,73,84]:List UInt8).toArray⟩,.string ⟨([65,83,67]:List UInt8).toArray⟩,.string ⟨([68,69,83,67]:List UInt8).toArray⟩,.string ⟨([65,83]:List UInt8).toArray⟩,.string ⟨([65,78,68]:List UInt8).toArray⟩,.string ⟨([79,82]:List UInt8).toArray⟩,.string ⟨([78,79,84]:List UInt8).toArray⟩,.string ⟨([73,83]:List UInt8).toArray⟩,.string ⟨([78,85,76,76]:List UInt8).toArray⟩,.string ⟨([84,82,85,69]:List UInt8).toArray⟩,.string ⟨([70,65,76,83,69]:List UInt8).toArray⟩,.string ⟨([67,79,85,78,84]:List UInt8).toArray⟩,.string ⟨([83,85,77]:List UInt8).toArray⟩,.string ⟨([77,73,78]:List UInt8).toArray⟩,.string ⟨([77,65,88]:List UInt8).toArray⟩],rfl,rfl,⟨[.string ⟨([66,89]:List UInt8).toArray⟩],[.string ⟨([72,65,86,73,78,71]:List UInt8).toArray⟩,.string ⟨([85,78,73,79,78]:List UInt8).toArray⟩,.string ⟨([65,76,76]:List UInt8).toArray⟩,.string ⟨([79,82,68,69,82]:List UInt8).toArray⟩,.string ⟨([76,73,77,73,84]:List UInt8).toArray⟩,.string ⟨([65,83,67]:List UInt8).toArray⟩,.string ⟨([68,69,83,67]:List UInt8).toArray⟩,.string ⟨([65,83]:List UInt8).toArray⟩,.string ⟨([65,78,68]:List UInt8).toArray⟩,.string ⟨([79,82]:List UInt8).toArray⟩,.string ⟨([78,79,84]:List UInt8).toArray⟩,.string ⟨([73,83]:List UInt8).toArray⟩,.string ⟨([78,85,76,76]:List UInt8).toArray⟩,.string ⟨([84,82,85,69]:List UInt8).toArray⟩,.string ⟨([70,65,76,83,69]:List UInt8).toArray⟩,.string ⟨([67,79,85,78,84]:List UInt8).toArray⟩,.string ⟨([83,85,77]:List UInt8).toArray⟩,.string ⟨([77,73,78]:List UInt8).toArray⟩,.string ⟨([77,65,88]:List UInt8).toArray⟩],rfl,rfl,⟨[.string ⟨([72,65,86,73,78,71]:List UInt8).toArray⟩],[.string ⟨([85,78,73,79,78]:List UInt8).toArray⟩,.string ⟨([65,76,76]:List UInt8).toArray⟩,.string ⟨([79,82,68,69,82]:List UInt8).toArray⟩,.string ⟨([76,73,77,73,84]:List UInt8).toArray⟩,.string ⟨([65,83,67]:List UInt8).toArray⟩,.string ⟨([68,69,83,67]:List UInt8).toArray⟩,.string ⟨([65,83]:List UInt8).toArray⟩,.string ⟨([65,78,68]:List UInt8).toArray⟩,.string ⟨([79,82]:List UInt8).toArray⟩,.string ⟨([78,79,84]:List UInt8).toArray⟩,.string ⟨([73,83]:List UInt8).toArray⟩,.string ⟨([78,85,76,76]:List UInt8).toArray⟩,.string ⟨([84,82,85,69]:List UInt8).toArray⟩,.string ⟨([70,65,76,83,69]:List UInt8).toArray⟩,.string ⟨([67,79,85,78,84]:List UInt8).toArray⟩,.string ⟨([83,85,77]:List UInt8).toArray⟩,.string ⟨([77,73,78]:List UInt8).toArray⟩,.string ⟨([77,65,88]:List UInt8).toArray⟩],rfl,rfl,⟨[.string ⟨([85,78,73,79,78]:List UInt8).toArray⟩],[.string ⟨([65,76,76]:List UInt8).toArray⟩,.string ⟨([79,82,68,69,82]:List UInt8).toArray⟩,.string ⟨([76,73,77,73,84]:List UInt8).toArray⟩,.string ⟨([65,83,67]:List UInt8).toArray⟩,.string ⟨([68,69,83,67]:List UInt8).toArray⟩,.string ⟨([65,83]:List UInt8).toArray⟩,.string ⟨([65,78,68]:List UInt8).toArray⟩,.string ⟨([79,82]:List UInt8).toArray⟩,.string ⟨([78,79,84]:List UInt8).toArray⟩,.string ⟨([73,83]:List UInt8).toArray⟩,.string ⟨([78,85,76,76]:List UInt8).toArray⟩,.string ⟨([84,82,85,69]:List UInt8).toArray⟩,.string ⟨([70,65,76,83,69]:List UInt8).toArray⟩,.string ⟨([67,79,85,78,84]:List UInt8).toArray⟩,.string ⟨([83,85,77]:List UInt8).toArray⟩,.string ⟨([77,73,78]:List UInt8).toArray⟩,.string ⟨([77,65,88]:List UInt8).toArray⟩],rfl,rfl,⟨[.string ⟨([65,76,76]:List UInt8).toArray⟩],[.string ⟨([79,82,68,69,82]:List UInt8).toArray⟩,.string ⟨([76,73,77,73,84]:List UInt8).toArray⟩,.string ⟨([65,83,67]:List UInt8).toArray⟩,.string ⟨([68,69,83,67]:List UInt8).toArray⟩,.string ⟨([65,83]:List UInt8).toArray⟩,.string ⟨([65,78,68]:List UInt8).toArray⟩,.string ⟨([79,82]:List UInt8).toArray⟩,.string ⟨([78,79,84]:List UInt8).toArray⟩,.string ⟨([73,83]:List UInt8).toArray⟩,.string ⟨([78,85,76,76]:List UInt8).toArray⟩,.string ⟨([84,82,85,69]:List UInt8).toArray⟩,.string ⟨([70,65,76,83,69]:List UInt8).toArray⟩,.string ⟨([67,79,85,78,84]:List UInt8).toArray⟩,.string ⟨([83,85,77]:List UInt8).toArray⟩,.string ⟨([77,73,78]:List UInt8).toArray⟩,.string ⟨([77,65,88]:List UInt8).toArray⟩],rfl,rfl,⟨[.string ⟨([79,82,68,69,82]:List UInt8).toArray⟩],[.string ⟨([76,73,77,73,84]:List UInt8).toArray⟩,.string ⟨([65,83,67]:List UInt8).toArray⟩,.string ⟨([68,69,83,67]:List UInt8).toArray⟩,.string ⟨([65,83]:List UInt8).toArray⟩,.string ⟨([65,78,68]:List UInt8).toArray⟩,.string ⟨([79,82]:List UInt8).toArray⟩,.string ⟨([78,79,84]:List UInt8).toArray⟩,.string ⟨([73,83]:List UInt8).toArray⟩,.string ⟨([78,85,76,76]:List UInt8).toArray⟩,.string ⟨([84,82,85,69]:List UInt8).toArray⟩,.string ⟨([70,65,76,83,69]:List UInt8).toArray⟩,.string ⟨([67,79,85,78,84]:List UInt8).toArray⟩,.string ⟨([83,85,77]:List UInt8).toArray⟩,.string ⟨([77,73,78]:List UInt8).toArray⟩,.string ⟨([77,65,88]:List UInt8).toArray⟩],rfl,rfl,⟨[.string ⟨([76,73,77,73,84]:List UInt8).toArray⟩],[.string ⟨([65,83,67]:List UInt8).toArray⟩,.string ⟨([68,69,83,67]:List UInt8).toArray⟩,.string ⟨([65,83]:List UInt8).toArray⟩,.string ⟨([65,78,68]:List UInt8).toArray⟩,.string ⟨([79,82]:List UInt8).toArray⟩,.string ⟨([78,79,84]:List UInt8).toArray⟩,.string ⟨([73,83]:List UInt8).toArray⟩,.string ⟨([78,85,76,76]:List UInt8).toArray⟩,.string ⟨([84,82,85,69]:List UInt8).toArray⟩,.string ⟨([70,65,76,83,69]:List UInt8).toArray⟩,.string ⟨([67,79,85,78,84]:List UInt8).toArray⟩,.string ⟨([83,85,77]:List UInt8).toArray⟩,.string ⟨([77,73,78]:List UInt8).toArray⟩,.string ⟨([77,65,88]:List UInt8).toArray⟩],rfl,rfl,⟨[.string ⟨([65,83,67]:List UInt8).toArray⟩],[.string ⟨([68,69,83,67]:List UInt8).toArray⟩,.string ⟨([65,83]:List UInt8).toArray⟩,.string ⟨([65,78,68]:List UInt8).toArray⟩,.string ⟨([79,82]:List UInt8).toArray⟩,.string ⟨([78,79,84]:List UInt8).toArray⟩,.string ⟨([73,83]:List UInt8).toArray⟩,.string ⟨([78,85,76,76]:List UInt8).toArray⟩,.string ⟨([84,82,85,69]:List UInt8).toArray⟩,.string ⟨([70,65,76,83,69]:List UInt8).toArray⟩,.string ⟨([67,79,85,78,84]:List UInt8).toArray⟩,.string ⟨([83,85,77]:List UInt8).toArray⟩,.string ⟨([77,73,78]:List UInt8).toArray⟩,.string ⟨([77,65,88]:List UInt8).toArray⟩],rfl,rfl,⟨[.string ⟨([68,69,83,67]:List UInt8).toArray⟩],[.string ⟨([65,83]:List UInt8).toArray⟩,.string ⟨([65,78,68]:List UInt8).toArray⟩,.string ⟨([79,82]:List UInt8).toArray⟩,.string ⟨([78,79,84]:List UInt8).toArray⟩,.string ⟨([73,83]:List UInt8).toArray⟩,.string ⟨([78,85,76,76]:List UInt8).toArray⟩,.string ⟨([84,82,85,69]:List UInt8).toArray⟩,.string ⟨([70,65,76,83,69]:List UInt8).toArray⟩,.string ⟨([67,79,85,78,84]:List UInt8).toArray⟩,.string ⟨([83,85,77]:List UInt8).toArray⟩,.string ⟨([77,73,78]:List UInt8).toArray⟩,.string ⟨([77,65,88]:List UInt8).toArray⟩],rfl,rfl,⟨[.string ⟨([65,83]:List UInt8).toArray⟩],[.string ⟨([65,78,68]:List UInt8).toArray⟩,.string ⟨([79,82]:List UInt8).toArray⟩,.string ⟨([78,79,84]:List UInt8).toArray⟩,.string ⟨([73,83]:List UInt8).toArray⟩,.string ⟨([78,85,76,76]:List UInt8).toArray⟩,.string ⟨([84,82,85,69]:List UInt8).toArray⟩,.string ⟨([70,65,76,83,69]:List UInt8).toArray⟩,.string ⟨([67,79,85,78,84]:List UInt8).toArray⟩,.string ⟨([83,85,77]:List UInt8).toArray⟩,.string ⟨([77,73,78]:List UInt8).toArray⟩,.string ⟨([77,65,88]:List UInt8).toArray⟩],rfl,rfl,⟨[.string ⟨([65,78,68]:List UInt8).toArray⟩],[.string ⟨([79,82]:List UInt8).toArray⟩,.string ⟨([78,79,84]:List UInt8).toArray⟩,.string ⟨([73,83]:List UInt8).toArray⟩,.string ⟨([78,85,76,76]:List UInt8).toArray⟩,.string ⟨([84,82,85,69]:List UInt8).toArray⟩,.string ⟨([70,65,76,83,69]:List UInt8).toArray⟩,.string ⟨([67,79,85,78,84]:List UInt8).toArray⟩,.string ⟨([83,85,77]:List UInt8).toArray⟩,.string ⟨([77,73,78]:List UInt8).toArray⟩,.string ⟨([77,65,88]:List UInt8).toArray⟩],rfl,rfl,⟨[.string ⟨([79,82]:List UInt8).toArray⟩],[.string ⟨([78,79,84]:List UInt8).toArray⟩,.string ⟨([73,83]:List UInt8).toArray⟩,.string ⟨([78,85,76,76]:List UInt8).toArray⟩,.string ⟨([84,82,85,69]:List UInt8).toArray⟩,.string ⟨([70,65,76,83,69]:List UInt8).toArray⟩,.string ⟨([67,79,85,78,84]:List UInt8).toArray⟩,.string ⟨([83,85,77]:List UInt8).toArray⟩,.string ⟨([77,73,78]:List UInt8).toArray⟩,.string ⟨([77,65,88]:List UInt8).toArray⟩],rfl,rfl,⟨[.string ⟨([78,79,84]:List UInt8).toArray⟩],[.string ⟨([73,83]:List UInt8).toArray⟩,.string ⟨([78,85,76,76]:List UInt8).toArray⟩,.string ⟨([84,82,85,69]:List UInt8).toArray⟩,.string ⟨([70,65,76,83,69]:List UInt8).toArray⟩,.string ⟨([67,79,85,78,84]:List UInt8).toArray⟩,.string ⟨([83,85,77]:List UInt8).toArray⟩,.string ⟨([77,73,78]:List UInt8).toArray⟩,.string ⟨([77,65,88]:List UInt8).toArray⟩],rfl,rfl,⟨[.string ⟨([73,83]:List UInt8).toArray⟩],[.string ⟨([78,85,76,76]:List UInt8).toArray⟩,.string ⟨([84,82,85,69]:List UInt8).toArray⟩,.string ⟨([70,65,76,83,69]:List UInt8).toArray⟩,.string ⟨([67,79,85,78,84]:List UInt8).toArray⟩,.string ⟨([83,85,77]:List UInt8).toArray⟩,.string ⟨([77,73,78]:List UInt8).toArray⟩,.string ⟨([77,65,88]:List UInt8).toArray⟩],rfl,rfl,⟨[.string ⟨([78,85,76,76]:List UInt8).toArray⟩],[.string ⟨([84,82,85,69]:List UInt8).toArray⟩,.string ⟨([70,65,76,83,69]:List UInt8).toArray⟩,.string ⟨([67,79,85,78,84]:List UInt8).toArray⟩,.string ⟨([83,85,77]:List UInt8).toArray⟩,.string ⟨([77,73,78]:List UInt8).toArray⟩,.string ⟨([77,65,88]:List UInt8).toArray⟩],rfl,rfl,⟨[.string ⟨([84,82,85,69]:List UInt8).toArray⟩],[.string ⟨([70,65,76,83,69]:List UInt8).toArray⟩,.string ⟨([67,79,85,78,84]:List UInt8).toArray⟩,.string ⟨([83,85,77]:List UInt8).toArray⟩,.string ⟨([77,73,78]:List UInt8).toArray⟩,.string ⟨([77,65,88]:List UInt8).toArray⟩],rfl,rfl,⟨[.string ⟨([70,65,76,83,69]:List UInt8).toArray⟩],[.string ⟨([67,79,85,78,84]:List UInt8).toArray⟩,.string ⟨([83,85,77]:List UInt8).toArray⟩,.string ⟨([77,73,78]:List UInt8).toArray⟩,.string ⟨([77,65,88]:List UInt8).toArray⟩],rfl,rfl,⟨[.string ⟨([67,79,85,78,84]:List UInt8).toArray⟩],[.string ⟨([83,85,77]:List UInt8).toArray⟩,.string ⟨([77,73,78]:List UInt8).toArray⟩,.string ⟨([77,65,88]:List UInt8).toArray⟩],rfl,rfl,⟨[.string ⟨([83,85,77]:List UInt8).toArray⟩],[.string ⟨([77,73,78]:List UInt8).toArray⟩,.string ⟨([77,65,88]:List UInt8).toArray⟩],rfl,rfl,⟨[.string ⟨([77,73,78]:List UInt8).toArray⟩],[.string ⟨([77,65,88]:List UInt8).toArray⟩],rfl,rfl,⟨[.string ⟨([77,65,88]:List UInt8).toArray⟩],[],rfl,rfl,(rfl:_=[])⟩⟩⟩⟩⟩⟩⟩⟩⟩⟩⟩⟩⟩⟩⟩⟩⟩⟩⟩⟩⟩⟩⟩⟩⟩⟩⟩⟩⟩

end Go.Proofs.YtnmjbolollcokaaGreatDoor

