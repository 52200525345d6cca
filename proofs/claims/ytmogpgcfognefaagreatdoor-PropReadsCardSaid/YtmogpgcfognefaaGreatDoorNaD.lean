/- cG of this claim: D. -/
import Derived.Test.YtmogpgcfognefaaGreatDoorNaV4
set_option linter.all false
namespace Go.Proofs.YtmogpgcfognefaaGreatDoor
open Go

structure cP where
 Kind:Int
 N:Int
 U:Int
 S:ji
 deriving DecidableEq,Inhabited
def dx:Rp cP:=jx (bN (rI .i64) (bN (rI .i64) (bN (rI .u64) rS))) (fun x=>(x.Kind,x.N,x.U,x.S))
theorem qc:jj dx 0 (rI .i64) (fun x=>x.Kind):=(cF bJ)
theorem sL:ft dx 0 (rI .i64) (fun x y=>{x with Kind:=y}):=cj de (fun _ _=>rfl)
theorem sW:jj dx 1 (rI .i64) (fun x=>x.N):=(cF (ax bJ rfl))
theorem xa:ft dx 1 (rI .i64) (fun x y=>{x with N:=y}):=cj (aQ de rfl) (fun _ _=>rfl)
theorem Du:jj dx 2 (rI .u64) (fun x=>x.U):=(cF (ax (ax bJ rfl) rfl))
theorem C4:ft dx 2 (rI .u64) (fun x y=>{x with U:=y}):=cj (aQ (aQ de rfl) rfl) (fun _ _=>rfl)
theorem qb:jj dx 3 rS (fun x=>x.S):=(ax (ax (ax bJ rfl) rfl) rfl)
theorem w9:ft dx 3 rS (fun x y=>{x with S:=y}):=cj (aQ (aQ (aQ aw rfl) rfl) rfl) (fun _ _=>rfl)
theorem qM: ∀S,dx.rc S [.int .i64 0,.int .i64 0,.int .u64 0,.string ⟨#[]⟩] ((⟨(0:Int),(0:Int),(0:Int),[]⟩:cP)):=fun _=>⟨[.int .i64 0],[.int .i64 0,.int .u64 0,.string ⟨#[]⟩],rfl,rfl,⟨[.int .i64 0],[.int .u64 0,.string ⟨#[]⟩],rfl,rfl,⟨[.int .u64 0],[.string ⟨#[]⟩],rfl,rfl,rfl⟩⟩⟩
structure bt where
 Tag:Int
 L:Int
 R:Int
 Col:Int
 Value:cP
 deriving DecidableEq,Inhabited
def aR:Rp bt:=jx (bN (rI .i64) (bN (rI .i64) (bN (rI .i64) (bN (rI .i64) dx)))) (fun x=>(x.Tag,x.L,x.R,x.Col,x.Value))
theorem eO:jj aR 0 (rI .i64) (fun x=>x.Tag):=(cF bJ)
theorem qf:jj aR 1 (rI .i64) (fun x=>x.L):=(cF (ax bJ rfl))
theorem C9:ft aR 1 (rI .i64) (fun x y=>{x with L:=y}):=cj (aQ de rfl) (fun _ _=>rfl)
theorem qe:jj aR 2 (rI .i64) (fun x=>x.R):=(cF (ax (ax bJ rfl) rfl))
theorem C8:ft aR 2 (rI .i64) (fun x y=>{x with R:=y}):=cj (aQ (aQ de rfl) rfl) (fun _ _=>rfl)
theorem iz:jj aR 3 (rI .i64) (fun x=>x.Col):=(cF (ax (ax (ax bJ rfl) rfl) rfl))
theorem lW:jj aR 4 dx (fun x=>x.Value):=(ax (ax (ax (ax bJ rfl) rfl) rfl) rfl)
theorem C7:ft aR 4 dx (fun x y=>{x with Value:=y}):=cj (aQ (aQ (aQ (aQ aw rfl) rfl) rfl) rfl) (fun _ _=>rfl)
theorem nw: ∀S,aR.rc S [.int .i64 0,.int .i64 0,.int .i64 0,.int .i64 0,.int .i64 0,.int .i64 0,.int .u64 0,.string ⟨#[]⟩] ((⟨(0:Int),(0:Int),(0:Int),(0:Int),(⟨(0:Int),(0:Int),(0:Int),[]⟩:cP)⟩:bt)):=fun _=>⟨[.int .i64 0],[.int .i64 0,.int .i64 0,.int .i64 0,.int .i64 0,.int .i64 0,.int .u64 0,.string ⟨#[]⟩],rfl,rfl,⟨[.int .i64 0],[.int .i64 0,.int .i64 0,.int .i64 0,.int .i64 0,.int .u64 0,.string ⟨#[]⟩],rfl,rfl,⟨[.int .i64 0],[.int .i64 0,.int .i64 0,.int .i64 0,.int .u64 0,.string ⟨#[]⟩],rfl,rfl,⟨[.int .i64 0],[.int .i64 0,.int .i64 0,.int .u64 0,.string ⟨#[]⟩],rfl,rfl,qM _⟩⟩⟩⟩
structure bo where
 Nodes:(List bt)
 deriving DecidableEq,Inhabited
def be:Rp bo:=jx (dE aR) (fun x=>(x.Nodes))
theorem dc:jj be 0 (dE aR) (fun x=>x.Nodes):=bJ
theorem pS: ∀S,be.rc S [.slice none 0 0] ((⟨[]⟩:bo)):=fun _=>⟨none,0,rfl,fQ _,jM _,.inl rfl⟩
structure gc where
 Tag:Int
 Arg:bo
 deriving DecidableEq,Inhabited
def cS:Rp gc:=jx (bN (rI .i64) be) (fun x=>(x.Tag,x.Arg))
theorem kj:jj cS 0 (rI .i64) (fun x=>x.Tag):=(cF bJ)
theorem pG:jj cS 1 be (fun x=>x.Arg):=(ax bJ rfl)
theorem Ha:ft cS 1 be (fun x y=>{x with Arg:=y}):=cj (aQ aw rfl) (fun _ _=>rfl)
theorem sC: ∀S,cS.rc S [.int .i64 0,.slice none 0 0] ((⟨(0:Int),(⟨[]⟩:bo)⟩:gc)):=fun _=>⟨[.int .i64 0],[.slice none 0 0],rfl,rfl,pS _⟩
structure iC where
 Col:Int
 Desc:Bool
 deriving DecidableEq,Inhabited
def fV:Rp iC:=jx (bN (rI .i64) rB) (fun x=>(x.Col,x.Desc))
theorem xP:jj fV 0 (rI .i64) (fun x=>x.Col):=(cF bJ)
theorem Hz:jj fV 1 rB (fun x=>x.Desc):=(ax bJ rfl)
structure aF where
 Op:Int
 A:Int
 B:Int
 Table:Int
 Kinds:(List Int)
 Left:Bool
 Cond:bo
 Keys:(List Int)
 Aggs:(List gc)
 Items:(List bo)
 Order:(List iC)
 Limit:Int
 deriving DecidableEq,Inhabited
def aE:Rp aF:=jx (bN (rI .i64) (bN (rI .i64) (bN (rI .i64) (bN (rI .i64) (bN (dE (rI .i64)) (bN rB (bN be (bN (dE (rI .i64)) (bN (dE cS) (bN (dE be) (bN (dE fV) (rI .i64)))))))))))) (fun x=>(x.Op,x.A,x.B,x.Table,x.Kinds,x.Left,x.Cond,x.Keys,x.Aggs,x.Items,x.Order,x.Limit))
theorem cV:jj aE 0 (rI .i64) (fun x=>x.Op):=(cF bJ)
theorem sP:ft aE 0 (rI .i64) (fun x y=>{x with Op:=y}):=cj de (fun _ _=>rfl)
theorem k7:jj aE 1 (rI .i64) (fun x=>x.A):=(cF (ax bJ rfl))
theorem sO:ft aE 1 (rI .i64) (fun x y=>{x with A:=y}):=cj (aQ de rfl) (fun _ _=>rfl)
theorem m9:jj aE 2 (rI .i64) (fun x=>x.B):=(cF (ax (ax bJ rfl) rfl))
theorem sN:ft aE 2 (rI .i64) (fun x y=>{x with B:=y}):=cj (aQ (aQ de rfl) rfl) (fun _ _=>rfl)
theorem gi:jj aE 3 (rI .i64) (fun x=>x.Table):=(cF (ax (ax (ax bJ rfl) rfl) rfl))
theorem gQ:jj aE 4 (dE (rI .i64)) (fun x=>x.Kinds):=(cF (ax (ax (ax (ax bJ rfl) rfl) rfl) rfl))
theorem sM:ft aE 4 (dE (rI .i64)) (fun x y=>{x with Kinds:=y}):=cj (aQ (aQ (aQ (aQ de rfl) rfl) rfl) rfl) (fun _ _=>rfl)
theorem Dv:jj aE 5 rB (fun x=>x.Left):=(cF (ax (ax (ax (ax (ax bJ rfl) rfl) rfl) rfl) rfl))
theorem oI:jj aE 6 be (fun x=>x.Cond):=(cF (ax (ax (ax (ax (ax (ax bJ rfl) rfl) rfl) rfl) rfl) rfl))
theorem fh:jj aE 7 (dE (rI .i64)) (fun x=>x.Keys):=(cF (ax (ax (ax (ax (ax (ax (ax bJ rfl) rfl) rfl) rfl) rfl) rfl) rfl))
theorem C6:ft aE 7 (dE (rI .i64)) (fun x y=>{x with Keys:=y}):=cj (aQ (aQ (aQ (aQ (aQ (aQ (aQ de rfl) rfl) rfl) rfl) rfl) rfl) rfl) (fun _ _=>rfl)
theorem fM:jj aE 8 (dE cS) (fun x=>x.Aggs):=(cF (ax (ax (ax (ax (ax (ax (ax (ax bJ rfl) rfl) rfl) rfl) rfl) rfl) rfl) rfl))
theorem oH:jj aE 9 (dE be) (fun x=>x.Items):=(cF (ax (ax (ax (ax (ax (ax (ax (ax (ax bJ rfl) rfl) rfl) rfl) rfl) rfl) rfl) rfl) rfl))
theorem jN:jj aE 10 (dE fV) (fun x=>x.Order):=(cF (ax (ax (ax (ax (ax (ax (ax (ax (ax (ax bJ rfl) rfl) rfl) rfl) rfl) rfl) rfl) rfl) rfl) rfl))
theorem nG:jj aE 11 (rI .i64) (fun x=>x.Limit):=(ax (ax (ax (ax (ax (ax (ax (ax (ax (ax (ax bJ rfl) rfl) rfl) rfl) rfl) rfl) rfl) rfl) rfl) rfl) rfl)
theorem fF: ∀S,aE.rc S [.int .i64 0,.int .i64 0,.int .i64 0,.int .i64 0,.slice none 0 0,.bool false,.slice none 0 0,.slice none 0 0,.slice none 0 0,.slice none 0 0,.slice none 0 0,.int .i64 0] ((⟨(0:Int),(0:Int),(0:Int),(0:Int),[],false,(⟨[]⟩:bo),[],[],[],[],(0:Int)⟩:aF)):=fun _=>⟨[.int .i64 0],[.int .i64 0,.int .i64 0,.int .i64 0,.slice none 0 0,.bool false,.slice none 0 0,.slice none 0 0,.slice none 0 0,.slice none 0 0,.slice none 0 0,.int .i64 0],rfl,rfl,⟨[.int .i64 0],[.int .i64 0,.int .i64 0,.slice none 0 0,.bool false,.slice none 0 0,.slice none 0 0,.slice none 0 0,.slice none 0 0,.slice none 0 0,.int .i64 0],rfl,rfl,⟨[.int .i64 0],[.int .i64 0,.slice none 0 0,.bool false,.slice none 0 0,.slice none 0 0,.slice none 0 0,.slice none 0 0,.slice none 0 0,.int .i64 0],rfl,rfl,⟨[.int .i64 0],[.slice none 0 0,.bool false,.slice none 0 0,.slice none 0 0,.slice none 0 0,.slice none 0 0,.slice none 0 0,.int .i64 0],rfl,rfl,⟨[.slice none 0 0],[.bool false,.slice none 0 0,.slice none 0 0,.slice none 0 0,.slice none 0 0,.slice none 0 0,.int .i64 0],rfl,⟨none,0,rfl,fQ _,jM _,.inl rfl⟩,⟨[.bool false],[.slice none 0 0,.slice none 0 0,.slice none 0 0,.slice none 0 0,.slice none 0 0,.int .i64 0],rfl,rfl,⟨[.slice none 0 0],[.slice none 0 0,.slice none 0 0,.slice none 0 0,.slice none 0 0,.int .i64 0],rfl,pS _,⟨[.slice none 0 0],[.slice none 0 0,.slice none 0 0,.slice none 0 0,.int .i64 0],rfl,⟨none,0,rfl,fQ _,jM _,.inl rfl⟩,⟨[.slice none 0 0],[.slice none 0 0,.slice none 0 0,.int .i64 0],rfl,⟨none,0,rfl,fQ _,jM _,.inl rfl⟩,⟨[.slice none 0 0],[.slice none 0 0,.int .i64 0],rfl,⟨none,0,rfl,fQ _,jM _,.inl rfl⟩,⟨[.slice none 0 0],[.int .i64 0],rfl,⟨none,0,rfl,fQ _,jM _,.inl rfl⟩,rfl⟩⟩⟩⟩⟩⟩⟩⟩⟩⟩⟩
structure af where
 nodes:(List aF)
 kinds:(List (List Int))
 open_:(List Int)
 n:aF
 a_:(List Int)
 b:(List Int)
 result:(List Int)
 deriving DecidableEq,Inhabited
def aN:Rp af:=jx (bN (dE aE) (bN (dE (dE (rI .i64))) (bN (IG:Rp (List Int)) (bN aE (bN (dE (rI .i64)) (bN (dE (rI .i64)) (dE (rI .i64)))))))) (fun x=>(x.nodes,x.kinds,x.open_,x.n,x.a_,x.b,x.result))
theorem u0:jj aN 0 (dE aE) (fun x=>x.nodes):=(cF bJ)
theorem FL:ft aN 0 (dE aE) (fun x y=>{x with nodes:=y}):=cj de (fun _ _=>rfl)
theorem FK:ft aN 1 (dE (dE (rI .i64))) (fun x y=>{x with kinds:=y}):=cj (aQ de rfl) (fun _ _=>rfl)
theorem FJ:ft aN 2 (IG:Rp (List Int)) (fun x y=>{x with open_:=y}):=cj (aQ (aQ de rfl) rfl) (fun _ _=>rfl)
theorem dX:jj aN 3 aE (fun x=>x.n):=(cF (ax (ax (ax bJ rfl) rfl) rfl))
theorem FI:ft aN 3 aE (fun x y=>{x with n:=y}):=cj (aQ (aQ (aQ de rfl) rfl) rfl) (fun _ _=>rfl)
theorem ll:jj aN 15 (dE (rI .i64)) (fun x=>x.a_):=(cF (ax (ax (ax (ax bJ rfl) rfl) rfl) rfl))
theorem ze:ft aN 15 (dE (rI .i64)) (fun x y=>{x with a_:=y}):=cj (aQ (aQ (aQ (aQ de rfl) rfl) rfl) rfl) (fun _ _=>rfl)
theorem zF:jj aN 16 (dE (rI .i64)) (fun x=>x.b):=(cF (ax (ax (ax (ax (ax bJ rfl) rfl) rfl) rfl) rfl))
theorem zd:ft aN 16 (dE (rI .i64)) (fun x y=>{x with b:=y}):=cj (aQ (aQ (aQ (aQ (aQ de rfl) rfl) rfl) rfl) rfl) (fun _ _=>rfl)
theorem uZ:jj aN 17 (dE (rI .i64)) (fun x=>x.result):=(ax (ax (ax (ax (ax (ax bJ rfl) rfl) rfl) rfl) rfl) rfl)
theorem od:ft aN 17 (dE (rI .i64)) (fun x y=>{x with result:=y}):=cj (aQ (aQ (aQ (aQ (aQ (aQ aw rfl) rfl) rfl) rfl) rfl) rfl) (fun _ _=>rfl)
theorem Ik: ∀S,aN.rc S [.slice none 0 0,.slice none 0 0,.slice none 0 0,.int .i64 0,.int .i64 0,.int .i64 0,.int .i64 0,.slice none 0 0,.bool false,.slice none 0 0,.slice none 0 0,.slice none 0 0,.slice none 0 0,.slice none 0 0,.int .i64 0,.slice none 0 0,.slice none 0 0,.slice none 0 0] ((⟨[],[],[],(⟨(0:Int),(0:Int),(0:Int),(0:Int),[],false,(⟨[]⟩:bo),[],[],[],[],(0:Int)⟩:aF),[],[],[]⟩:af)):=fun _=>⟨[.slice none 0 0],[.slice none 0 0,.slice none 0 0,.int .i64 0,.int .i64 0,.int .i64 0,.int .i64 0,.slice none 0 0,.bool false,.slice none 0 0,.slice none 0 0,.slice none 0 0,.slice none 0 0,.slice none 0 0,.int .i64 0,.slice none 0 0,.slice none 0 0,.slice none 0 0],rfl,⟨none,0,rfl,fQ _,jM _,.inl rfl⟩,⟨[.slice none 0 0],[.slice none 0 0,.int .i64 0,.int .i64 0,.int .i64 0,.int .i64 0,.slice none 0 0,.bool false,.slice none 0 0,.slice none 0 0,.slice none 0 0,.slice none 0 0,.slice none 0 0,.int .i64 0,.slice none 0 0,.slice none 0 0,.slice none 0 0],rfl,⟨none,0,rfl,fQ _,jM _,.inl rfl⟩,⟨[.slice none 0 0],[.int .i64 0,.int .i64 0,.int .i64 0,.int .i64 0,.slice none 0 0,.bool false,.slice none 0 0,.slice none 0 0,.slice none 0 0,.slice none 0 0,.slice none 0 0,.int .i64 0,.slice none 0 0,.slice none 0 0,.slice none 0 0],rfl,⟨_,rfl,rfl⟩,⟨[.int .i64 0,.int .i64 0,.int .i64 0,.int .i64 0,.slice none 0 0,.bool false,.slice none 0 0,.slice none 0 0,.slice none 0 0,.slice none 0 0,.slice none 0 0,.int .i64 0],[.slice none 0 0,.slice none 0 0,.slice none 0 0],rfl,fF _,⟨[.slice none 0 0],[.slice none 0 0,.slice none 0 0],rfl,⟨none,0,rfl,fQ _,jM _,.inl rfl⟩,⟨[.slice none 0 0],[.slice none 0 0],rfl,⟨none,0,rfl,fQ _,jM _,.inl rfl⟩,⟨none,0,rfl,fQ _,jM _,.inl rfl⟩⟩⟩⟩⟩⟩⟩
structure aV where
 Name:ji
 Kind:Int
 deriving DecidableEq,Inhabited
def bZ:Rp aV:=jx (bN rS (rI .i64)) (fun x=>(x.Name,x.Kind))
theorem Cb:jj bZ 0 rS (fun x=>x.Name):=(cF bJ)
theorem vq:ft bZ 0 rS (fun x y=>{x with Name:=y}):=cj de (fun _ _=>rfl)
theorem vG:jj bZ 1 (rI .i64) (fun x=>x.Kind):=(ax bJ rfl)
theorem vp:ft bZ 1 (rI .i64) (fun x y=>{x with Kind:=y}):=cj (aQ aw rfl) (fun _ _=>rfl)
theorem px: ∀S,bZ.rc S [.string ⟨#[]⟩,.int .i64 0] ((⟨[],(0:Int)⟩:aV)):=fun _=>⟨[.string ⟨#[]⟩],[.int .i64 0],rfl,rfl,rfl⟩
structure yr where
 word:ji
 kind:Int
 deriving DecidableEq,Inhabited
def pY:Rp yr:=jx (bN rS (rI .i64)) (fun x=>(x.word,x.kind))
theorem Gh:jj pY 0 rS (fun x=>x.word):=(cF bJ)
theorem Gg:jj pY 1 (rI .i64) (fun x=>x.kind):=(ax bJ rfl)
theorem Il: ∀S,pY.rc S [.string ⟨#[]⟩,.int .i64 0] ((⟨[],(0:Int)⟩:yr)):=fun _=>⟨[.string ⟨#[]⟩],[.int .i64 0],rfl,rfl,rfl⟩
structure bp where
 Name:ji
 Columns:(List aV)
 Keys:(List Int)
 deriving DecidableEq,Inhabited
def ck:Rp bp:=jx (bN rS (bN (dE bZ) (dE (rI .i64)))) (fun x=>(x.Name,x.Columns,x.Keys))
theorem xO:jj ck 0 rS (fun x=>x.Name):=(cF bJ)
theorem C5:ft ck 0 rS (fun x y=>{x with Name:=y}):=cj de (fun _ _=>rfl)
theorem lV:jj ck 1 (dE bZ) (fun x=>x.Columns):=(cF (ax bJ rfl))
theorem xc:ft ck 1 (dE bZ) (fun x y=>{x with Columns:=y}):=cj (aQ de rfl) (fun _ _=>rfl)
theorem qd:jj ck 2 (dE (rI .i64)) (fun x=>x.Keys):=(ax (ax bJ rfl) rfl)
theorem xb:ft ck 2 (dE (rI .i64)) (fun x y=>{x with Keys:=y}):=cj (aQ (aQ aw rfl) rfl) (fun _ _=>rfl)
theorem wN: ∀S,ck.rc S [.string ⟨#[]⟩,.slice none 0 0,.slice none 0 0] ((⟨[],[],[]⟩:bp)):=fun _=>⟨[.string ⟨#[]⟩],[.slice none 0 0,.slice none 0 0],rfl,rfl,⟨[.slice none 0 0],[.slice none 0 0],rfl,⟨none,0,rfl,fQ _,jM _,.inl rfl⟩,⟨none,0,rfl,fQ _,jM _,.inl rfl⟩⟩⟩
structure bA where
 Tables:(List bp)
 deriving DecidableEq,Inhabited
def bF:Rp bA:=jx (dE ck) (fun x=>(x.Tables))
theorem j3:jj bF 0 (dE ck) (fun x=>x.Tables):=bJ
theorem Au:ft bF 0 (dE ck) (fun x y=>{x with Tables:=y}):=cj aw (fun _ _=>rfl)
theorem kO: ∀S,bF.rc S [.slice none 0 0] ((⟨[]⟩:bA)):=fun _=>⟨none,0,rfl,fQ _,jM _,.inl rfl⟩
structure cT where
 Nodes:(List aF)
 At:Int
 Way:Int
 Cols:(List Int)
 deriving DecidableEq,Inhabited
def bY:Rp cT:=jx (bN (dE aE) (bN (rI .i64) (bN (rI .i64) (dE (rI .i64))))) (fun x=>(x.Nodes,x.At,x.Way,x.Cols))
theorem iN:jj bY 0 (dE aE) (fun x=>x.Nodes):=(cF bJ)
theorem uL:ft bY 0 (dE aE) (fun x y=>{x with Nodes:=y}):=cj de (fun _ _=>rfl)
theorem na:jj bY 1 (rI .i64) (fun x=>x.At):=(cF (ax bJ rfl))
theorem zg:ft bY 1 (rI .i64) (fun x y=>{x with At:=y}):=cj (aQ de rfl) (fun _ _=>rfl)
theorem mj:jj bY 2 (rI .i64) (fun x=>x.Way):=(cF (ax (ax bJ rfl) rfl))
theorem zf:ft bY 2 (rI .i64) (fun x y=>{x with Way:=y}):=cj (aQ (aQ de rfl) rfl) (fun _ _=>rfl)
theorem pF:jj bY 3 (dE (rI .i64)) (fun x=>x.Cols):=(ax (ax (ax bJ rfl) rfl) rfl)
theorem FN:ft bY 3 (dE (rI .i64)) (fun x y=>{x with Cols:=y}):=cj (aQ (aQ (aQ aw rfl) rfl) rfl) (fun _ _=>rfl)
theorem nj: ∀S,bY.rc S [.slice none 0 0,.int .i64 0,.int .i64 0,.slice none 0 0] ((⟨[],(0:Int),(0:Int),[]⟩:cT)):=fun _=>⟨[.slice none 0 0],[.int .i64 0,.int .i64 0,.slice none 0 0],rfl,⟨none,0,rfl,fQ _,jM _,.inl rfl⟩,⟨[.int .i64 0],[.int .i64 0,.slice none 0 0],rfl,rfl,⟨[.int .i64 0],[.slice none 0 0],rfl,rfl,⟨none,0,rfl,fQ _,jM _,.inl rfl⟩⟩⟩⟩
structure cZ where
 Frags:(List cT)
 deriving DecidableEq,Inhabited
def cb:Rp cZ:=jx (dE bY) (fun x=>(x.Frags))
theorem eo:jj cb 0 (dE bY) (fun x=>x.Frags):=bJ
theorem FM:ft cb 0 (dE bY) (fun x y=>{x with Frags:=y}):=cj aw (fun _ _=>rfl)
theorem oQ: ∀S,cb.rc S [.slice none 0 0] ((⟨[]⟩:cZ)):=fun _=>⟨none,0,rfl,fQ _,jM _,.inl rfl⟩
structure bI where
 Plan:cZ
 c:bA
 kinds:(List (List (List Int)))
 deriving DecidableEq,Inhabited
def fe:Rp bI:=jx (bN cb (bN bF (dE (dE (dE (rI .i64)))))) (fun x=>(x.Plan,x.c,x.kinds))
theorem gv:jj fe 0 cb (fun x=>x.Plan):=(cF bJ)
theorem qa:jj fe 1 bF (fun x=>x.c):=(cF (ax bJ rfl))
theorem tW:jj fe 2 (dE (dE (dE (rI .i64)))) (fun x=>x.kinds):=(ax (ax bJ rfl) rfl)
structure bu where
 Kind:Int
 Cols:(List Int)
 deriving DecidableEq,Inhabited
def bP:Rp bu:=jx (bN (rI .i64) (dE (rI .i64))) (fun x=>(x.Kind,x.Cols))
theorem fS:jj bP 0 (rI .i64) (fun x=>x.Kind):=(cF bJ)
theorem ma:ft bP 0 (rI .i64) (fun x y=>{x with Kind:=y}):=cj de (fun _ _=>rfl)
theorem iM:jj bP 1 (dE (rI .i64)) (fun x=>x.Cols):=(ax bJ rfl)
theorem uK:ft bP 1 (dE (rI .i64)) (fun x y=>{x with Cols:=y}):=cj (aQ aw rfl) (fun _ _=>rfl)
theorem gK: ∀S,bP.rc S [.int .i64 0,.slice none 0 0] ((⟨(0:Int),[]⟩:bu)):=fun _=>⟨[.int .i64 0],[.slice none 0 0],rfl,rfl,⟨none,0,rfl,fQ _,jM _,.inl rfl⟩⟩
structure cq where
 checker:(Option bI)
 n:aF
 a_:bu
 b:bu
 deriving DecidableEq,Inhabited
def jn:Rp cq:=jx (bN (GL fe) (bN aE (bN bP bP))) (fun x=>(x.checker,x.n,x.a_,x.b))
theorem zE:jj jn 0 (GL fe) (fun x=>x.checker):=(cF bJ)
theorem FH:ft jn 0 (GL fe) (fun x y=>{x with checker:=y}):=cj de (fun _ _=>rfl)
theorem rK:jj jn 1 aE (fun x=>x.n):=(cF (ax bJ rfl))
theorem FG:ft jn 1 aE (fun x y=>{x with n:=y}):=cj (aQ de rfl) (fun _ _=>rfl)
theorem oj:jj jn 13 bP (fun x=>x.a_):=(cF (ax (ax bJ rfl) rfl))
theorem FF:ft jn 13 bP (fun x y=>{x with a_:=y}):=cj (aQ (aQ de rfl) rfl) (fun _ _=>rfl)
theorem zD:jj jn 15 bP (fun x=>x.b):=(ax (ax (ax bJ rfl) rfl) rfl)
theorem FE:ft jn 15 bP (fun x y=>{x with b:=y}):=cj (aQ (aQ (aQ aw rfl) rfl) rfl) (fun _ _=>rfl)
theorem Ij: ∀S,jn.rc S [.pointer none,.int .i64 0,.int .i64 0,.int .i64 0,.int .i64 0,.slice none 0 0,.bool false,.slice none 0 0,.slice none 0 0,.slice none 0 0,.slice none 0 0,.slice none 0 0,.int .i64 0,.int .i64 0,.slice none 0 0,.int .i64 0,.slice none 0 0] ((⟨none,(⟨(0:Int),(0:Int),(0:Int),(0:Int),[],false,(⟨[]⟩:bo),[],[],[],[],(0:Int)⟩:aF),(⟨(0:Int),[]⟩:bu),(⟨(0:Int),[]⟩:bu)⟩:cq)):=fun _=>⟨[.pointer none],[.int .i64 0,.int .i64 0,.int .i64 0,.int .i64 0,.slice none 0 0,.bool false,.slice none 0 0,.slice none 0 0,.slice none 0 0,.slice none 0 0,.slice none 0 0,.int .i64 0,.int .i64 0,.slice none 0 0,.int .i64 0,.slice none 0 0],rfl,⟨_,rfl,rfl⟩,⟨[.int .i64 0,.int .i64 0,.int .i64 0,.int .i64 0,.slice none 0 0,.bool false,.slice none 0 0,.slice none 0 0,.slice none 0 0,.slice none 0 0,.slice none 0 0,.int .i64 0],[.int .i64 0,.slice none 0 0,.int .i64 0,.slice none 0 0],rfl,fF _,⟨[.int .i64 0,.slice none 0 0],[.int .i64 0,.slice none 0 0],rfl,gK _,gK _⟩⟩⟩
structure Qj where
 Nodes:(List aF)
 deriving DecidableEq,Inhabited
structure DBase where
 Tables:(List (List (List cP)))
 deriving DecidableEq,Inhabited
structure yl where
 Tables:Value
def fL:Rp yl:=jx rV (fun x=>(x.Tables))
theorem mI:jj fL 0 rV (fun x=>x.Tables):=bJ
theorem w8:ft fL 0 rV (fun x y=>{x with Tables:=y}):=cj aw (fun _ _=>rfl)
def gu(y:bA)(v0:Value):yl:=⟨v0⟩
theorem te: ∀S,fL.rc S [.slice none 0 0] (gu ((⟨[]⟩:bA)) (ai none 0 0)):=fun _=>⟨rfl,rfl⟩
structure E5 where
 Frags:Value
def m2:Rp E5:=jx rV (fun x=>(x.Frags))
theorem vF:jj m2 0 rV (fun x=>x.Frags):=bJ
theorem BB:ft m2 0 rV (fun x y=>{x with Frags:=y}):=cj aw (fun _ _=>rfl)
def oe(y:cZ)(v0:Value):E5:=⟨v0⟩
theorem y9: ∀S,m2.rc S [.slice none 0 0] (oe ((⟨[]⟩:cZ)) (ai none 0 0)):=fun _=>⟨rfl,rfl⟩
structure E6 where
 Nodes:Value
def iH:Rp E6:=jx rV (fun x=>(x.Nodes))
theorem o4:jj iH 0 rV (fun x=>x.Nodes):=bJ
theorem vo:ft iH 0 rV (fun x y=>{x with Nodes:=y}):=cj aw (fun _ _=>rfl)
def iL(y:bo)(v0:Value):E6:=⟨v0⟩
theorem ru: ∀S,iH.rc S [.slice none 0 0] (iL ((⟨[]⟩:bo)) (ai none 0 0)):=fun _=>⟨rfl,rfl⟩
structure CC where
 Op:Int
 A:Int
 B:Int
 Table:Int
 Kinds:(List Int)
 Left:Bool
 Cond:bo
 Keys:(List Int)
 Aggs:Value
 Items:(List bo)
 Order:(List iC)
 Limit:Int
def xg:Rp CC:=jx (bN (rI .i64) (bN (rI .i64) (bN (rI .i64) (bN (rI .i64) (bN (dE (rI .i64)) (bN rB (bN be (bN (dE (rI .i64)) (bN rV (bN (dE be) (bN (dE fV) (rI .i64)))))))))))) (fun x=>(x.Op,x.A,x.B,x.Table,x.Kinds,x.Left,x.Cond,x.Keys,x.Aggs,x.Items,x.Order,x.Limit))
def xE(y:aF)(v8:Value):CC:=⟨y.Op,y.A,y.B,y.Table,y.Kinds,y.Left,y.Cond,y.Keys,v8,y.Items,y.Order,y.Limit⟩
structure yk where
 Op:Int
 A:Int
 B:Int
 Table:Int
 Kinds:(List Int)
 Left:Bool
 Cond:bo
 Keys:(List Int)
 Aggs:Value
 Items:Value
 Order:(List iC)
 Limit:Int
def eH:Rp yk:=jx (bN (rI .i64) (bN (rI .i64) (bN (rI .i64) (bN (rI .i64) (bN (dE (rI .i64)) (bN rB (bN be (bN (dE (rI .i64)) (bN rV (bN rV (bN (dE fV) (rI .i64)))))))))))) (fun x=>(x.Op,x.A,x.B,x.Table,x.Kinds,x.Left,x.Cond,x.Keys,x.Aggs,x.Items,x.Order,x.Limit))
theorem xN:jj eH 6 be (fun x=>x.Cond):=(cF (ax (ax (ax (ax (ax (ax bJ rfl) rfl) rfl) rfl) rfl) rfl))
theorem w7:ft eH 6 be (fun x y=>{x with Cond:=y}):=cj (aQ (aQ (aQ (aQ (aQ (aQ de rfl) rfl) rfl) rfl) rfl) rfl) (fun _ _=>rfl)
theorem q9:jj eH 8 rV (fun x=>x.Aggs):=(cF (ax (ax (ax (ax (ax (ax (ax (ax bJ rfl) rfl) rfl) rfl) rfl) rfl) rfl) rfl))
theorem q8:jj eH 9 rV (fun x=>x.Items):=(cF (ax (ax (ax (ax (ax (ax (ax (ax (ax bJ rfl) rfl) rfl) rfl) rfl) rfl) rfl) rfl) rfl))
theorem we:ft eH 10 (dE fV) (fun x y=>{x with Order:=y}):=cj (aQ (aQ (aQ (aQ (aQ (aQ (aQ (aQ (aQ (aQ de rfl) rfl) rfl) rfl) rfl) rfl) rfl) rfl) rfl) rfl) (fun _ _=>rfl)
def iU(y:aF)(v8:Value)(v9:Value):yk:=⟨y.Op,y.A,y.B,y.Table,y.Kinds,y.Left,y.Cond,y.Keys,v8,v9,y.Order,y.Limit⟩
theorem Ag: ∀S,eH.rc S [.int .i64 0,.int .i64 0,.int .i64 0,.int .i64 0,.slice none 0 0,.bool false,.slice none 0 0,.slice none 0 0,.slice none 0 0,.slice none 0 0,.slice none 0 0,.int .i64 0] (iU ((⟨(0:Int),(0:Int),(0:Int),(0:Int),[],false,(⟨[]⟩:bo),[],[],[],[],(0:Int)⟩:aF)) (ai none 0 0) (ai none 0 0)):=fun _=>⟨[.int .i64 0],[.int .i64 0,.int .i64 0,.int .i64 0,.slice none 0 0,.bool false,.slice none 0 0,.slice none 0 0,.slice none 0 0,.slice none 0 0,.slice none 0 0,.int .i64 0],rfl,rfl,⟨[.int .i64 0],[.int .i64 0,.int .i64 0,.slice none 0 0,.bool false,.slice none 0 0,.slice none 0 0,.slice none 0 0,.slice none 0 0,.slice none 0 0,.int .i64 0],rfl,rfl,⟨[.int .i64 0],[.int .i64 0,.slice none 0 0,.bool false,.slice none 0 0,.slice none 0 0,.slice none 0 0,.slice none 0 0,.slice none 0 0,.int .i64 0],rfl,rfl,⟨[.int .i64 0],[.slice none 0 0,.bool false,.slice none 0 0,.slice none 0 0,.slice none 0 0,.slice none 0 0,.slice none 0 0,.int .i64 0],rfl,rfl,⟨[.slice none 0 0],[.bool false,.slice none 0 0,.slice none 0 0,.slice none 0 0,.slice none 0 0,.slice none 0 0,.int .i64 0],rfl,⟨none,0,rfl,fQ _,jM _,.inl rfl⟩,⟨[.bool false],[.slice none 0 0,.slice none 0 0,.slice none 0 0,.slice none 0 0,.slice none 0 0,.int .i64 0],rfl,rfl,⟨[.slice none 0 0],[.slice none 0 0,.slice none 0 0,.slice none 0 0,.slice none 0 0,.int .i64 0],rfl,pS _,⟨[.slice none 0 0],[.slice none 0 0,.slice none 0 0,.slice none 0 0,.int .i64 0],rfl,⟨none,0,rfl,fQ _,jM _,.inl rfl⟩,⟨[.slice none 0 0],[.slice none 0 0,.slice none 0 0,.int .i64 0],rfl,⟨rfl,rfl⟩,⟨[.slice none 0 0],[.slice none 0 0,.int .i64 0],rfl,⟨rfl,rfl⟩,⟨[.slice none 0 0],[.int .i64 0],rfl,⟨none,0,rfl,fQ _,jM _,.inl rfl⟩,rfl⟩⟩⟩⟩⟩⟩⟩⟩⟩⟩⟩
structure OU where
 Op:Int
 A:Int
 B:Int
 Table:Int
 Kinds:(List Int)
 Left:Bool
 Cond:bo
 Keys:(List Int)
 Aggs:(List gc)
 Items:Value
 Order:(List iC)
 Limit:Int
structure O8 where
 Kind:Int
 Cols:Value
structure E4 where
 nodes:(List aF)
 kinds:(List (List Int))
 open_:(List Int)
 n:aF
 a_:(List Int)
 b:(List Int)
 result:Value
def bc:Rp E4:=jx (bN (dE aE) (bN (dE (dE (rI .i64))) (bN (IG:Rp (List Int)) (bN aE (bN (dE (rI .i64)) (bN (dE (rI .i64)) rV)))))) (fun x=>(x.nodes,x.kinds,x.open_,x.n,x.a_,x.b,x.result))
theorem q7:jj bc 3 aE (fun x=>x.n):=(cF (ax (ax (ax bJ rfl) rfl) rfl))
theorem hZ:jj bc 15 (dE (rI .i64)) (fun x=>x.a_):=(cF (ax (ax (ax (ax bJ rfl) rfl) rfl) rfl))
theorem Ca:jj bc 16 (dE (rI .i64)) (fun x=>x.b):=(cF (ax (ax (ax (ax (ax bJ rfl) rfl) rfl) rfl) rfl))
theorem iX:jj bc 17 rV (fun x=>x.result):=(ax (ax (ax (ax (ax (ax bJ rfl) rfl) rfl) rfl) rfl) rfl)
def bm(y:af)(v6:Value):E4:=⟨y.nodes,y.kinds,y.open_,y.n,y.a_,y.b,v6⟩
structure yj where
 Plan:cZ
 c:bA
 kinds:Value
def fK:Rp yj:=jx (bN cb (bN bF rV)) (fun x=>(x.Plan,x.c,x.kinds))
theorem wZ:ft fK 0 cb (fun x y=>{x with Plan:=y}):=cj de (fun _ _=>rfl)
theorem wY:ft fK 1 bF (fun x y=>{x with c:=y}):=cj (aQ de rfl) (fun _ _=>rfl)
theorem xM:jj fK 2 rV (fun x=>x.kinds):=(ax (ax bJ rfl) rfl)
def hG(y:bI)(v2:Value):yj:=⟨y.Plan,y.c,v2⟩
theorem Af: ∀S,fK.rc S [.slice none 0 0,.slice none 0 0,.slice none 0 0] (hG ((⟨(⟨[]⟩:cZ),(⟨[]⟩:bA),[]⟩:bI)) (ai none 0 0)):=fun _=>⟨[.slice none 0 0],[.slice none 0 0,.slice none 0 0],rfl,oQ _,⟨[.slice none 0 0],[.slice none 0 0],rfl,kO _,⟨rfl,rfl⟩⟩⟩
structure OT where
 Nodes:Value
theorem ue{S:SH}{cs:List Value}{y:bA}{v0:Value}{xs0:(List bp)}(k0:(dE ck).rc S [v0] xs0)(h:fL.rc S cs (gu y v0)):bF.rc S cs ((⟨xs0⟩:bA)):=by
 have h0:=h
 exact(by rw [h0.1];exact k0)
theorem yb{S:SH}{cs:List Value}{y:cZ}{v0:Value}{xs0:(List cT)}(k0:(dE bY).rc S [v0] xs0)(h:m2.rc S cs (oe y v0)):cb.rc S cs ((⟨xs0⟩:cZ)):=by
 have h0:=h
 exact(by rw [h0.1];exact k0)
theorem rl{S:SH}{cs:List Value}{y:bo}{v0:Value}{xs0:(List bt)}(k0:(dE aR).rc S [v0] xs0)(h:iH.rc S cs (iL y v0)):be.rc S cs ((⟨xs0⟩:bo)):=by
 have h0:=h
 exact(by rw [h0.1];exact k0)
theorem ud{S:SH}{cs:List Value}{y:aF}{v8:Value}{v9:Value}{xs8:(List gc)}(k8:(dE cS).rc S [v8] xs8){xs9:(List bo)}(k9:(dE be).rc S [v9] xs9)(h:eH.rc S cs (iU y v8 v9)):aE.rc S cs ((⟨y.Op,y.A,y.B,y.Table,y.Kinds,y.Left,y.Cond,y.Keys,xs8,xs9,y.Order,y.Limit⟩:aF)):=by
 obtain⟨a0,b0,e0,h0,a1,b1,e1,h1,a2,b2,e2,h2,a3,b3,e3,h3,a4,b4,e4,h4,a5,b5,e5,h5,a6,b6,e6,h6,a7,b7,e7,h7,a8,b8,e8,h8,a9,b9,e9,h9,a10,b10,e10,h10,h11⟩:=h
 exact⟨a0,b0,e0,h0,a1,b1,e1,h1,a2,b2,e2,h2,a3,b3,e3,h3,a4,b4,e4,h4,a5,b5,e5,h5,a6,b6,e6,h6,a7,b7,e7,h7,a8,b8,e8,(by rw [h8.1];exact k8),a9,b9,e9,(by rw [h9.1];exact k9),a10,b10,e10,h10,h11⟩
theorem fN{S:SH}{cs:List Value}{y:af}{v6:Value}{xs6:(List Int)}(k6:(dE (rI .i64)).rc S [v6] xs6)(h:bc.rc S cs (bm y v6)):aN.rc S cs ((⟨y.nodes,y.kinds,y.open_,y.n,y.a_,y.b,xs6⟩:af)):=by
 obtain⟨a0,b0,e0,h0,a1,b1,e1,h1,a2,b2,e2,h2,a3,b3,e3,h3,a4,b4,e4,h4,a5,b5,e5,h5,h6⟩:=h
 exact⟨a0,b0,e0,h0,a1,b1,e1,h1,a2,b2,e2,h2,a3,b3,e3,h3,a4,b4,e4,h4,a5,b5,e5,h5,(by rw [h6.1];exact k6)⟩
theorem mM{S:SH}{cs:List Value}{y:bI}{v2:Value}{xs2:(List (List (List Int)))}(k2:(dE (dE (dE (rI .i64)))).rc S [v2] xs2)(h:fK.rc S cs (hG y v2)):fe.rc S cs ((⟨y.Plan,y.c,xs2⟩:bI)):=by
 obtain⟨a0,b0,e0,h0,a1,b1,e1,h1,h2⟩:=h
 exact⟨a0,b0,e0,h0,a1,b1,e1,h1,(by rw [h2.1];exact k2)⟩
theorem sH(y:aF)(v:Value):mU aE xg 8 rV (y) v (xE y v):=tp (dQ (dQ (dQ (dQ (dQ (dQ (dQ (dQ (Ei (kl rfl) rfl) rfl) rfl) rfl) rfl) rfl) rfl) rfl) rfl) rfl
theorem pW(y:aF)(v8:Value)(v:Value):mU xg eH 9 rV (xE y v8) v (iU y v8 v):=tp (dQ (dQ (dQ (dQ (dQ (dQ (dQ (dQ (dQ (Ei (kl rfl) rfl) rfl) rfl) rfl) rfl) rfl) rfl) rfl) rfl) rfl) rfl
theorem iR(y:af)(v:Value):mU aN bc 17 rV (y) v (bm y v):=tp (dQ (dQ (dQ (dQ (dQ (dQ (kl rfl) rfl) rfl) rfl) rfl) rfl) rfl) rfl
theorem fR(y:af)(u:Value)(v:Value):mU bc bc 17 rV (bm y u) v (bm y v):=tp (dQ (dQ (dQ (dQ (dQ (dQ (kl rfl) rfl) rfl) rfl) rfl) rfl) rfl) rfl
theorem pV(y:bI)(u:Value)(v:Value):mU fK fK 2 rV (hG y u) v (hG y v):=tp (dQ (dQ (kl rfl) rfl) rfl) rfl
def du(b:Nat)(x:af)(i:OI):List OE:=[bx (rH aN [(1,ai (i.h 0).1 (i.h 0).2 x.kinds.length),(2,ai (i.h 1).1 (i.h 1).2 x.open_.length)]) 124 b x,gX (dE (rI .i64)) 29 (i.h 0).1 (i.h 0).2 x.kinds,cu (rI .i64) 3 (i.h 1).1 (i.h 1).2 x.open_]
def Ls(b:Nat)(x:af)(i:OI):List OE:=[bx (rH bc [(1,ai (i.h 0).1 (i.h 0).2 x.kinds.length),(2,ai (i.h 1).1 (i.h 1).2 x.open_.length)]) 124 b (bm x (ai (i.h 2).1 (i.h 2).2 x.result.length)),gX (dE (rI .i64)) 29 (i.h 0).1 (i.h 0).2 x.kinds,cu (rI .i64) 3 (i.h 1).1 (i.h 1).2 x.open_,cu (rI .i64) 3 (i.h 2).1 (i.h 2).2 x.result]
def LA:(List yr):=[(⟨[98,111,111,108],(1:Int)⟩:yr),(⟨[105,110,116],(2:Int)⟩:yr),(⟨[116,101,120,116],(3:Int)⟩:yr)]
theorem gm0:((0:Nat),([.string ⟨([98,111,111,108]:List UInt8).toArray⟩,.int .i64 (1),.string ⟨([105,110,116]:List UInt8).toArray⟩,.int .i64 (2),.string ⟨([116,101,120,116]:List UInt8).toArray⟩,.int .i64 (3)]:List Value))∈glob:=by simp [glob]
theorem gr0: ∀S,(lR pY 3).rc S ([.string ⟨([98,111,111,108]:List UInt8).toArray⟩,.int .i64 (1),.string ⟨([105,110,116]:List UInt8).toArray⟩,.int .i64 (2),.string ⟨([116,101,120,116]:List UInt8).toArray⟩,.int .i64 (3)]:List Value) LA:=fun _=>⟨rfl,⟨[.string ⟨([98,111,111,108]:List UInt8).toArray⟩,.int .i64 (1)],[.string ⟨([105,110,116]:List UInt8).toArray⟩,.int .i64 (2),.string ⟨([116,101,120,116]:List UInt8).toArray⟩,.int .i64 (3)],rfl,⟨[.string ⟨([98,111,111,108]:List UInt8).toArray⟩],[.int .i64 (1)],rfl,rfl,rfl⟩,⟨[.string ⟨([105,110,116]:List UInt8).toArray⟩,.int .i64 (2)],[.string ⟨([116,101,120,116]:List UInt8).toArray⟩,.int .i64 (3)],rfl,⟨[.string ⟨([105,110,116]:List UInt8).toArray⟩],[.int .i64 (2)],rfl,rfl,rfl⟩,⟨[.string ⟨([116,101,120,116]:List UInt8).toArray⟩,.int .i64 (3)],[],rfl,⟨[.string ⟨([116,101,120,116]:List UInt8).toArray⟩],[.int .i64 (3)],rfl,rfl,rfl⟩,(rfl:_=[])⟩⟩⟩⟩
def Na:(List ji):=[[83,69,76,69,67,84],[68,73,83,84,73,78,67,84],[70,82,79,77],[76,69,70,84],[74,79,73,78],[79,78],[87,72,69,82,69],[71,82,79,85,80],[66,89],[72,65,86,73,78,71],[85,78,73,79,78],[65,76,76],[79,82,68,69,82],[76,73,77,73,84],[65,83,67],[68,69,83,67],[65,83],[65,78,68],[79,82],[78,79,84],[73,83],[78,85,76,76],[84,82,85,69],[70,65,76,83,69],[67,79,85,78,84],[83,85,77],[77,73,78],[77,65,88]]
theorem gm2:((2:Nat),([.string ⟨([83,69,76,69,67,84]:List UInt8).toArray⟩,.string ⟨([68,73,83,84,73,78,67,84]:List UInt8).toArray⟩,.string ⟨([70,82,79,77]:List UInt8).toArray⟩,.string ⟨([76,69,70,84]:List UInt8).toArray⟩,.string ⟨([74,79,73,78]:List UInt8).toArray⟩,.string ⟨([79,78]:List UInt8).toArray⟩,.string ⟨([87,72,69,82,69]:List UInt8).toArray⟩,.string ⟨([71,82,79,85,80]:List UInt8).toArray⟩,.string ⟨([66,89]:List UInt8).toArray⟩,.string ⟨([72,65,86,73,78,71]:List UInt8).toArray⟩,.string ⟨([85,78,73,79,78]:List UInt8).toArray⟩,.string ⟨([65,76,76]:List UInt8).toArray⟩,.string ⟨([79,82,68,69,82]:List UInt8).toArray⟩,.string ⟨([76,73,77,73,84]:List UInt8).toArray⟩,.string ⟨([65,83,67]:List UInt8).toArray⟩,.string ⟨([68,69,83,67]:List UInt8).toArray⟩,.string ⟨([65,83]:List UInt8).toArray⟩,.string ⟨([65,78,68]:List UInt8).toArray⟩,.string ⟨([79,82]:List UInt8).toArray⟩,.string ⟨([78,79,84]:List UInt8).toArray⟩,.string ⟨([73,83]:List UInt8).toArray⟩,.string ⟨([78,85,76,76]:List UInt8).toArray⟩,.string ⟨([84,82,85,69]:List UInt8).toArray⟩,.string ⟨([70,65,76,83,69]:List UInt8).toArray⟩,.string ⟨([67,79,85,78,84]:List UInt8).toArray⟩,.string ⟨([83,85,77]:List UInt8).toArray⟩,.string ⟨([77,73,78]:List UInt8).toArray⟩,.string ⟨([77,65,88]:List UInt8).toArray⟩]:List Value))∈glob:=by simp [glob]
theorem gr2: ∀S,(lR rS 28).rc S ([.string ⟨([83,69,76,69,67,84]:List UInt8).toArray⟩,.string ⟨([68,73,83,84,73,78,67,84]:List UInt8).toArray⟩,.string ⟨([70,82,79,77]:List UInt8).toArray⟩,.string ⟨([76,69,70,84]:List UInt8).toArray⟩,.string ⟨([74,79,73,78]:List UInt8).toArray⟩,.string ⟨([79,78]:List UInt8).toArray⟩,.string ⟨([87,72,69,82,69]:List UInt8).toArray⟩,.string ⟨([71,82,79,85,80]:List UInt8).toArray⟩,.string ⟨([66,89]:List UInt8).toArray⟩,.string ⟨([72,65,86,73,78,71]:List UInt8).toArray⟩,.string ⟨([85,78,73,79,78]:List UInt8).toArray⟩,.string ⟨([65,76,76]:List UInt8).toArray⟩,.string ⟨([79,82,68,69,82]:List UInt8).toArray⟩,.string ⟨([76,73,77,73,84]:List UInt8).toArray⟩,.string ⟨([65,83,67]:List UInt8).toArray⟩,.string ⟨([68,69,83,67]:List UInt8).toArray⟩,.string ⟨([65,83]:List UInt8).toArray⟩,.string ⟨([65,78,68]:List UInt8).toArray⟩,.string ⟨([79,82]:List UInt8).toArray⟩,.string ⟨([78,79,84]:List UInt8).toArray⟩,.string ⟨([73,83]:List UInt8).toArray⟩,.string ⟨([78,85,76,76]:List UInt8).toArray⟩,.string ⟨([84,82,85,69]:List UInt8).toArray⟩,.string ⟨([70,65,76,83,69]:List UInt8).toArray⟩,.string ⟨([67,79,85,78,84]:List UInt8).toArray⟩,.string ⟨([83,85,77]:List UInt8).toArray⟩,.string ⟨([77,73,78]:List UInt8).toArray⟩,.string ⟨([77,65,88]:List UInt8).toArray⟩]:List Value) Na:=fun _=>⟨rfl,⟨[.string ⟨([83,69,76,69,67,84]:List UInt8).toArray⟩],[.string ⟨([68,73,83,84,73,78,67,84]:List UInt8).toArray⟩,.string ⟨([70,82,79,77]:List UInt8).toArray⟩,.string ⟨([76,69,70,84]:List UInt8).toArray⟩,.string ⟨([74,79,73,78]:List UInt8).toArray⟩,.string ⟨([79,78]:List UInt8).toArray⟩,.string ⟨([87,72,69,82,69]:List UInt8).toArray⟩,.string ⟨([71,82,79,85,80]:List UInt8).toArray⟩,.string ⟨([66,89]:List UInt8).toArray⟩,.string ⟨([72,65,86,73,78,71]:List UInt8).toArray⟩,.string ⟨([85,78,73,79,78]:List UInt8).toArray⟩,.string ⟨([65,76,76]:List UInt8).toArray⟩,.string ⟨([79,82,68,69,82]:List UInt8).toArray⟩,.string ⟨([76,73,77,73,84]:List UInt8).toArray⟩,.string ⟨([65,83,67]:List UInt8).toArray⟩,.string ⟨([68,69,83,67]:List UInt8).toArray⟩,.string ⟨([65,83]:List UInt8).toArray⟩,.string ⟨([65,78,68]:List UInt8).toArray⟩,.string ⟨([79,82]:List UInt8).toArray⟩,.string ⟨([78,79,84]:List UInt8).toArray⟩,.string ⟨([73,83]:List UInt8).toArray⟩,.string ⟨([78,85,76,76]:List UInt8).toArray⟩,.string ⟨([84,82,85,69]:List UInt8).toArray⟩,.string ⟨([70,65,76,83,69]:List UInt8).toArray⟩,.string ⟨([67,79,85,78,84]:List UInt8).toArray⟩,.string ⟨([83,85,77]:List UInt8).toArray⟩,.string ⟨([77,73,78]:List UInt8).toArray⟩,.string ⟨([77,65,88]:List UInt8).toArray⟩],rfl,rfl,⟨[.string ⟨([68,73,83,84,73,78,67,84]:List UInt8).toArray⟩],[.string ⟨([70,82,79,77]:List UInt8).toArray⟩,.string ⟨([76,69,70,84]:List UInt8).toArray⟩,.string ⟨([74,79,73,78]:List UInt8).toArray⟩,.string ⟨([79,78]:List UInt8).toArray⟩,.string ⟨([87,72,69,82,69]:List UInt8).toArray⟩,.string ⟨([71,82,79,85,80]:List UInt8).toArray⟩,.string ⟨([66,89]:List UInt8).toArray⟩,.string ⟨([72,65,86,73,78,71]:List UInt8).toArray⟩,.string ⟨([85,78,73,79,78]:List UInt8).toArray⟩,.string ⟨([65,76,76]:List UInt8).toArray⟩,.string ⟨([79,82,68,69,82]:List UInt8).toArray⟩,.string ⟨([76,73,77,73,84]:List UInt8).toArray⟩,.string ⟨([65,83,67]:List UInt8).toArray⟩,.string ⟨([68,69,83,67]:List UInt8).toArray⟩,.string ⟨([65,83]:List UInt8).toArray⟩,.string ⟨([65,78,68]:List UInt8).toArray⟩,.string ⟨([79,82]:List UInt8).toArray⟩,.string ⟨([78,79,84]:List UInt8).toArray⟩,.string ⟨([73,83]:List UInt8).toArray⟩,.string ⟨([78,85,76,76]:List UInt8).toArray⟩,.string ⟨([84,82,85,69]:List UInt8).toArray⟩,.string ⟨([70,65,76,83,69]:List UInt8).toArray⟩,.string ⟨([67,79,85,78,84]:List UInt8).toArray⟩,.string ⟨([83,85,77]:List UInt8).toArray⟩,.string ⟨([77,73,78]:List UInt8).toArray⟩,.string ⟨([77,65,88]:List UInt8).toArray⟩],rfl,rfl,⟨[.string ⟨([70,82,79,77]:List UInt8).toArray⟩],[.string ⟨([76,69,70,84]:List UInt8).toArray⟩,.string ⟨([74,79,73,78]:List UInt8).toArray⟩,.string ⟨([79,78]:List UInt8).toArray⟩,.string ⟨([87,72,69,82,69]:List UInt8).toArray⟩,.string ⟨([71,82,79,85,80]:List UInt8).toArray⟩,.string ⟨([66,89]:List UInt8).toArray⟩,.string ⟨([72,65,86,73,78,71]:List UInt8).toArray⟩,.string ⟨([85,78,73,79,78]:List UInt8).toArray⟩,.string ⟨([65,76,76]:List UInt8).toArray⟩,.string ⟨([79,82,68,69,82]:List UInt8).toArray⟩,.string ⟨([76,73,77,73,84]:List UInt8).toArray⟩,.string ⟨([65,83,67]:List UInt8).toArray⟩,.string ⟨([68,69,83,67]:List UInt8).toArray⟩,.string ⟨([65,83]:List UInt8).toArray⟩,.string ⟨([65,78,68]:List UInt8).toArray⟩,.string ⟨([79,82]:List UInt8).toArray⟩,.string ⟨([78,79,84]:List UInt8).toArray⟩,.string ⟨([73,83]:List UInt8).toArray⟩,.string ⟨([78,85,76,76]:List UInt8).toArray⟩,.string ⟨([84,82,85,69]:List UInt8).toArray⟩,.string ⟨([70,65,76,83,69]:List UInt8).toArray⟩,.string ⟨([67,79,85,78,84]:List UInt8).toArray⟩,.string ⟨([83,85,77]:List UInt8).toArray⟩,.string ⟨([77,73,78]:List UInt8).toArray⟩,.string ⟨([77,65,88]:List UInt8).toArray⟩],rfl,rfl,⟨[.string ⟨([76,69,70,84]:List UInt8).toArray⟩],[.string ⟨([74,79,73,78]:List UInt8).toArray⟩,.string ⟨([79,78]:List UInt8).toArray⟩,.string ⟨([87,72,69,82,69]:List UInt8).toArray⟩,.string ⟨([71,82,79,85,80]:List UInt8).toArray⟩,.string ⟨([66,89]:List UInt8).toArray⟩,.string ⟨([72,65,86,73,78,71]:List UInt8).toArray⟩,.string ⟨([85,78,73,79,78]:List UInt8).toArray⟩,.string ⟨([65,76,76]:List UInt8).toArray⟩,.string ⟨([79,82,68,69,82]:List UInt8).toArray⟩,.string ⟨([76,73,77,73,84]:List UInt8).toArray⟩,.string ⟨([65,83,67]:List UInt8).toArray⟩,.string ⟨([68,69,83,67]:List UInt8).toArray⟩,.string ⟨([65,83]:List UInt8).toArray⟩,.string ⟨([65,78,68]:List UInt8).toArray⟩,.string ⟨([79,82]:List UInt8).toArray⟩,.string ⟨([78,79,84]:List UInt8).toArray⟩,.string ⟨([73,83]:List UInt8).toArray⟩,.string ⟨([78,85,76,76]:List UInt8).toArray⟩,.string ⟨([84,82,85,69]:List UInt8).toArray⟩,.string ⟨([70,65,76,83,69]:List UInt8).toArray⟩,.string ⟨([67,79,85,78,84]:List UInt8).toArray⟩,.string ⟨([83,85,77]:List UInt8).toArray⟩,.string ⟨([77,73,78]:List UInt8).toArray⟩,.string ⟨([77,65,88]:List UInt8).toArray⟩],rfl,rfl,⟨[.string ⟨([74,79,73,78]:List UInt8).toArray⟩],[.string ⟨([79,78]:List UInt8).toArray⟩,.string ⟨([87,72,69,82,69]:List UInt8).toArray⟩,.string ⟨([71,82,79,85,80]:List UInt8).toArray⟩,.string ⟨([66,89]:List UInt8).toArray⟩,.string ⟨([72,65,86,73,78,71]:List UInt8).toArray⟩,.string ⟨([85,78,73,79,78]:List UInt8).toArray⟩,.string ⟨([65,76,76]:List UInt8).toArray⟩,.string ⟨([79,82,68,69,82]:List UInt8).toArray⟩,.string ⟨([76,73,77,73,84]:List UInt8).toArray⟩,.string ⟨([65,83,67]:List UInt8).toArray⟩,.string ⟨([68,69,83,67]:List UInt8).toArray⟩,.string ⟨([65,83]:List UInt8).toArray⟩,.string ⟨([65,78,68]:List UInt8).toArray⟩,.string ⟨([79,82]:List UInt8).toArray⟩,.string ⟨([78,79,84]:List UInt8).toArray⟩,.string ⟨([73,83]:List UInt8).toArray⟩,.string ⟨([78,85,76,76]:List UInt8).toArray⟩,.string ⟨([84,82,85,69]:List UInt8).toArray⟩,.string ⟨([70,65,76,83,69]:List UInt8).toArray⟩,.string ⟨([67,79,85,78,84]:List UInt8).toArray⟩,.string ⟨([83,85,77]:List UInt8).toArray⟩,.string ⟨([77,73,78]:List UInt8).toArray⟩,.string ⟨([77,65,88]:List UInt8).toArray⟩],rfl,rfl,⟨[.string ⟨([79,78]:List UInt8).toArray⟩],[.string ⟨([87,72,69,82,69]:List UInt8).toArray⟩,.string ⟨([71,82,79,85,80]:List UInt8).toArray⟩,.string ⟨([66,89]:List UInt8).toArray⟩,.string ⟨([72,65,86,73,78,71]:List UInt8).toArray⟩,.string ⟨([85,78,73,79,78]:List UInt8).toArray⟩,.string ⟨([65,76,76]:List UInt8).toArray⟩,.string ⟨([79,82,68,69,82]:List UInt8).toArray⟩,.string ⟨([76,73,77,73,84]:List UInt8).toArray⟩,.string ⟨([65,83,67]:List UInt8).toArray⟩,.string ⟨([68,69,83,67]:List UInt8).toArray⟩,.string ⟨([65,83]:List UInt8).toArray⟩,.string ⟨([65,78,68]:List UInt8).toArray⟩,.string ⟨([79,82]:List UInt8).toArray⟩,.string ⟨([78,79,84]:List UInt8).toArray⟩,.string ⟨([73,83]:List UInt8).toArray⟩,.string ⟨([78,85,76,76]:List UInt8).toArray⟩,.string ⟨([84,82,85,69]:List UInt8).toArray⟩,.string ⟨([70,65,76,83,69]:List UInt8).toArray⟩,.string ⟨([67,79,85,78,84]:List UInt8).toArray⟩,.string ⟨([83,85,77]:List UInt8).toArray⟩,.string ⟨([77,73,78]:List UInt8).toArray⟩,.string ⟨([77,65,88]:List UInt8).toArray⟩],rfl,rfl,⟨[.string ⟨([87,72,69,82,69]:List UInt8).toArray⟩],[.string ⟨([71,82,79,85,80]:List UInt8).toArray⟩,.string ⟨([66,89]:List UInt8).toArray⟩,.string ⟨([72,65,86,73,78,71]:List UInt8).toArray⟩,.string ⟨([85,78,73,79,78]:List UInt8).toArray⟩,.string ⟨([65,76,76]:List UInt8).toArray⟩,.string ⟨([79,82,68,69,82]:List UInt8).toArray⟩,.string ⟨([76,73,77,73,84]:List UInt8).toArray⟩,.string ⟨([65,83,67]:List UInt8).toArray⟩,.string ⟨([68,69,83,67]:List UInt8).toArray⟩,.string ⟨([65,83]:List UInt8).toArray⟩,.string ⟨([65,78,68]:List UInt8).toArray⟩,.string ⟨([79,82]:List UInt8).toArray⟩,.string ⟨([78,79,84]:List UInt8).toArray⟩,.string ⟨([73,83]:List UInt8).toArray⟩,.string ⟨([78,85,76,76]:List UInt8).toArray⟩,.string ⟨([84,82,85,69]:List UInt8).toArray⟩,.string ⟨([70,65,76,83,69]:List UInt8).toArray⟩,.string ⟨([67,79,85,78,84]:List UInt8).toArray⟩,.string ⟨([83,85,77]:List UInt8).toArray⟩,.string ⟨([77,73,78]:List UInt8).toArray⟩,.string ⟨([77,65,88]:List UInt8).toArray⟩],rfl,rfl,⟨[.string ⟨([71,82,79,85,80]:List UInt8).toArray⟩],[.string ⟨([66,89]:List UInt8).toArray⟩,.string ⟨([72,65,86,73,78,71]:List UInt8).toArray⟩,.string ⟨([85,78,73,79,78]:List UInt8).toArray⟩,.string ⟨([65,76,76]:List UInt8).toArray⟩,.string ⟨([79,82,68,69,82]:List UInt8).toArray⟩,.string ⟨([76,73,77,73,84]:List UInt8).toArray⟩,.string ⟨([65,83,67]:List UInt8).toArray⟩,.string ⟨([68,69,83,67]:List UInt8).toArray⟩,.string ⟨([65,83]:List UInt8).toArray⟩,.string ⟨([65,78,68]:List UInt8).toArray⟩,.string ⟨([79,82]:List UInt8).toArray⟩,.string ⟨([78,79,84]:List UInt8).toArray⟩,.string ⟨([73,83]:List UInt8).toArray⟩,.string ⟨([78,85,76,76]:List UInt8).toArray⟩,.string ⟨([84,82,85,69]:List UInt8).toArray⟩,.string ⟨([70,65,76,83,69]:List UInt8).toArray⟩,.string ⟨([67,79,85,78,84]:List UInt8).toArray⟩,.string ⟨([83,85,77]:List UInt8).toArray⟩,.string ⟨([77,73,78]:List UInt8).toArray⟩,.string ⟨([77,65,88]:List UInt8).toArray⟩],rfl,rfl,⟨[.string ⟨([66,89]:List UInt8).toArray⟩],[.string ⟨([72,65,86,73,78,71]:List UInt8).toArray⟩,.string ⟨([85,78,73,79,78]:List UInt8).toArray⟩,.string ⟨([65,76,76]:List UInt8).toArray⟩,.string ⟨([79,82,68,69,82]:List UInt8).toArray⟩,.string ⟨([76,73,77,73,84]:List UInt8).toArray⟩,.string ⟨([65,83,67]:List UInt8).toArray⟩,.string ⟨([68,69,83,67]:List UInt8).toArray⟩,.string ⟨([65,83]:List UInt8).toArray⟩,.string ⟨([65,78,68]:List UInt8).toArray⟩,.string ⟨([79,82]:List UInt8).toArray⟩,.string ⟨([78,79,84]:List UInt8).toArray⟩,.string ⟨([73,83]:List UInt8).toArray⟩,.string ⟨([78,85,76,76]:List UInt8).toArray⟩,.string ⟨([84,82,85,69]:List UInt8).toArray⟩,.string ⟨([70,65,76,83,69]:List UInt8).toArray⟩,.string ⟨([67,79,85,78,84]:List UInt8).toArray⟩,.string ⟨([83,85,77]:List UInt8).toArray⟩,.string ⟨([77,73,78]:List UInt8).toArray⟩,.string ⟨([77,65,88]:List UInt8).toArray⟩],rfl,rfl,⟨[.string ⟨([72,65,86,73,78,71]:List UInt8).toArray⟩],[.string ⟨([85,78,73,79,78]:List UInt8).toArray⟩,.string ⟨([65,76,76]:List UInt8).toArray⟩,.string ⟨([79,82,68,69,82]:List UInt8).toArray⟩,.string ⟨([76,73,77,73,84]:List UInt8).toArray⟩,.string ⟨([65,83,67]:List UInt8).toArray⟩,.string ⟨([68,69,83,67]:List UInt8).toArray⟩,.string ⟨([65,83]:List UInt8).toArray⟩,.string ⟨([65,78,68]:List UInt8).toArray⟩,.string ⟨([79,82]:List UInt8).toArray⟩,.string ⟨([78,79,84]:List UInt8).toArray⟩,.string ⟨([73,83]:List UInt8).toArray⟩,.string ⟨([78,85,76,76]:List UInt8).toArray⟩,.string ⟨([84,82,85,69]:List UInt8).toArray⟩,.string ⟨([70,65,76,83,69]:List UInt8).toArray⟩,.string ⟨([67,79,85,78,84]:List UInt8).toArray⟩,.string ⟨([83,85,77]:List UInt8).toArray⟩,.string ⟨([77,73,78]:List UInt8).toArray⟩,.string ⟨([77,65,88]:List UInt8).toArray⟩],rfl,rfl,⟨[.string ⟨([85,78,73,79,78]:List UInt8).toArray⟩],[.string ⟨([65,76,76]:List UInt8).toArray⟩,.string ⟨([79,82,68,69,82]:List UInt8).toArray⟩,.string ⟨([76,73,77,73,84]:List UInt8).toArray⟩,.string ⟨([65,83,67]:List UInt8).toArray⟩,.string ⟨([68,69,83,67]:List UInt8).toArray⟩,.string ⟨([65,83]:List UInt8).toArray⟩,.string ⟨([65,78,68]:List UInt8).toArray⟩,.string ⟨([79,82]:List UInt8).toArray⟩,.string ⟨([78,79,84]:List UInt8).toArray⟩,.string ⟨([73,83]:List UInt8).toArray⟩,.string ⟨([78,85,76,76]:List UInt8).toArray⟩,.string ⟨([84,82,85,69]:List UInt8).toArray⟩,.string ⟨([70,65,76,83,69]:List UInt8).toArray⟩,.string ⟨([67,79,85,78,84]:List UInt8).toArray⟩,.string ⟨([83,85,77]:List UInt8).toArray⟩,.string ⟨([77,73,78]:List UInt8).toArray⟩,.string ⟨([77,65,88]:List UInt8).toArray⟩],rfl,rfl,⟨[.string ⟨([65,76,76]:List UInt8).toArray⟩],[.string ⟨([79,82,68,69,82]:List UInt8).toArray⟩,.string ⟨([76,73,77,73,84]:List UInt8).toArray⟩,.string ⟨([65,83,67]:List UInt8).toArray⟩,.string ⟨([68,69,83,67]:List UInt8).toArray⟩,.string ⟨([65,83]:List UInt8).toArray⟩,.string ⟨([65,78,68]:List UInt8).toArray⟩,.string ⟨([79,82]:List UInt8).toArray⟩,.string ⟨([78,79,84]:List UInt8).toArray⟩,.string ⟨([73,83]:List UInt8).toArray⟩,.string ⟨([78,85,76,76]:List UInt8).toArray⟩,.string ⟨([84,82,85,69]:List UInt8).toArray⟩,.string ⟨([70,65,76,83,69]:List UInt8).toArray⟩,.string ⟨([67,79,85,78,84]:List UInt8).toArray⟩,.string ⟨([83,85,77]:List UInt8).toArray⟩,.string ⟨([77,73,78]:List UInt8).toArray⟩,.string ⟨([77,65,88]:List UInt8).toArray⟩],rfl,rfl,⟨[.string ⟨([79,82,68,69,82]:List UInt8).toArray⟩],[.string ⟨([76,73,77,73,84]:List UInt8).toArray⟩,.string ⟨([65,83,67]:List UInt8).toArray⟩,.string ⟨([68,69,83,67]:List UInt8).toArray⟩,.string ⟨([65,83]:List UInt8).toArray⟩,.string ⟨([65,78,68]:List UInt8).toArray⟩,.string ⟨([79,82]:List UInt8).toArray⟩,.string ⟨([78,79,84]:List UInt8).toArray⟩,.string ⟨([73,83]:List UInt8).toArray⟩,.string ⟨([78,85,76,76]:List UInt8).toArray⟩,.string ⟨([84,82,85,69]:List UInt8).toArray⟩,.string ⟨([70,65,76,83,69]:List UInt8).toArray⟩,.string ⟨([67,79,85,78,84]:List UInt8).toArray⟩,.string ⟨([83,85,77]:List UInt8).toArray⟩,.string ⟨([77,73,78]:List UInt8).toArray⟩,.string ⟨([77,65,88]:List UInt8).toArray⟩],rfl,rfl,⟨[.string ⟨([76,73,77,73,84]:List UInt8).toArray⟩],[.string ⟨([65,83,67]:List UInt8).toArray⟩,.string ⟨([68,69,83,67]:List UInt8).toArray⟩,.string ⟨([65,83]:List UInt8).toArray⟩,.string ⟨([65,78,68]:List UInt8).toArray⟩,.string ⟨([79,82]:List UInt8).toArray⟩,.string ⟨([78,79,84]:List UInt8).toArray⟩,.string ⟨([73,83]:List UInt8).toArray⟩,.string ⟨([78,85,76,76]:List UInt8).toArray⟩,.string ⟨([84,82,85,69]:List UInt8).toArray⟩,.string ⟨([70,65,76,83,69]:List UInt8).toArray⟩,.string ⟨([67,79,85,78,84]:List UInt8).toArray⟩,.string ⟨([83,85,77]:List UInt8).toArray⟩,.string ⟨([77,73,78]:List UInt8).toArray⟩,.string ⟨([77,65,88]:List UInt8).toArray⟩],rfl,rfl,⟨[.string ⟨([65,83,67]:List UInt8).toArray⟩],[.string ⟨([68,69,83,67]:List UInt8).toArray⟩,.string ⟨([65,83]:List UInt8).toArray⟩,.string ⟨([65,78,68]:List UInt8).toArray⟩,.string ⟨([79,82]:List UInt8).toArray⟩,.string ⟨([78,79,84]:List UInt8).toArray⟩,.string ⟨([73,83]:List UInt8).toArray⟩,.string ⟨([78,85,76,76]:List UInt8).toArray⟩,.string ⟨([84,82,85,69]:List UInt8).toArray⟩,.string ⟨([70,65,76,83,69]:List UInt8).toArray⟩,.string ⟨([67,79,85,78,84]:List UInt8).toArray⟩,.string ⟨([83,85,77]:List UInt8).toArray⟩,.string ⟨([77,73,78]:List UInt8).toArray⟩,.string ⟨([77,65,88]:List UInt8).toArray⟩],rfl,rfl,⟨[.string ⟨([68,69,83,67]:List UInt8).toArray⟩],[.string ⟨([65,83]:List UInt8).toArray⟩,.string ⟨([65,78,68]:List UInt8).toArray⟩,.string ⟨([79,82]:List UInt8).toArray⟩,.string ⟨([78,79,84]:List UInt8).toArray⟩,.string ⟨([73,83]:List UInt8).toArray⟩,.string ⟨([78,85,76,76]:List UInt8).toArray⟩,.string ⟨([84,82,85,69]:List UInt8).toArray⟩,.string ⟨([70,65,76,83,69]:List UInt8).toArray⟩,.string ⟨([67,79,85,78,84]:List UInt8).toArray⟩,.string ⟨([83,85,77]:List UInt8).toArray⟩,.string ⟨([77,73,78]:List UInt8).toArray⟩,.string ⟨([77,65,88]:List UInt8).toArray⟩],rfl,rfl,⟨[.string ⟨([65,83]:List UInt8).toArray⟩],[.string ⟨([65,78,68]:List UInt8).toArray⟩,.string ⟨([79,82]:List UInt8).toArray⟩,.string ⟨([78,79,84]:List UInt8).toArray⟩,.string ⟨([73,83]:List UInt8).toArray⟩,.string ⟨([78,85,76,76]:List UInt8).toArray⟩,.string ⟨([84,82,85,69]:List UInt8).toArray⟩,.string ⟨([70,65,76,83,69]:List UInt8).toArray⟩,.string ⟨([67,79,85,78,84]:List UInt8).toArray⟩,.string ⟨([83,85,77]:List UInt8).toArray⟩,.string ⟨([77,73,78]:List UInt8).toArray⟩,.string ⟨([77,65,88]:List UInt8).toArray⟩],rfl,rfl,⟨[.string ⟨([65,78,68]:List UInt8).toArray⟩],[.string ⟨([79,82]:List UInt8).toArray⟩,.string ⟨([78,79,84]:List UInt8).toArray⟩,.string ⟨([73,83]:List UInt8).toArray⟩,.string ⟨([78,85,76,76]:List UInt8).toArray⟩,.string ⟨([84,82,85,69]:List UInt8).toArray⟩,.string ⟨([70,65,76,83,69]:List UInt8).toArray⟩,.string ⟨([67,79,85,78,84]:List UInt8).toArray⟩,.string ⟨([83,85,77]:List UInt8).toArray⟩,.string ⟨([77,73,78]:List UInt8).toArray⟩,.string ⟨([77,65,88]:List UInt8).toArray⟩],rfl,rfl,⟨[.string ⟨([79,82]:List UInt8).toArray⟩],[.string ⟨([78,79,84]:List UInt8).toArray⟩,.string ⟨([73,83]:List UInt8).toArray⟩,.string ⟨([78,85,76,76]:List UInt8).toArray⟩,.string ⟨([84,82,85,69]:List UInt8).toArray⟩,.string ⟨([70,65,76,83,69]:List UInt8).toArray⟩,.string ⟨([67,79,85,78,84]:List UInt8).toArray⟩,.string ⟨([83,85,77]:List UInt8).toArray⟩,.string ⟨([77,73,78]:List UInt8).toArray⟩,.string ⟨([77,65,88]:List UInt8).toArray⟩],rfl,rfl,⟨[.string ⟨([78,79,84]:List UInt8).toArray⟩],[.string ⟨([73,83]:List UInt8).toArray⟩,.string ⟨([78,85,76,76]:List UInt8).toArray⟩,.string ⟨([84,82,85,69]:List UInt8).toArray⟩,.string ⟨([70,65,76,83,69]:List UInt8).toArray⟩,.string ⟨([67,79,85,78,84]:List UInt8).toArray⟩,.string ⟨([83,85,77]:List UInt8).toArray⟩,.string ⟨([77,73,78]:List UInt8).toArray⟩,.string ⟨([77,65,88]:List UInt8).toArray⟩],rfl,rfl,⟨[.string ⟨([73,83]:List UInt8).toArray⟩],[.string ⟨([78,85,76,76]:List UInt8).toArray⟩,.string ⟨([84,82,85,69]:List UInt8).toArray⟩,.string ⟨([70,65,76,83,69]:List UInt8).toArray⟩,.string ⟨([67,79,85,78,84]:List UInt8).toArray⟩,.string ⟨([83,85,77]:List UInt8).toArray⟩,.string ⟨([77,73,78]:List UInt8).toArray⟩,.string ⟨([77,65,88]:List UInt8).toArray⟩],rfl,rfl,⟨[.string ⟨([78,85,76,76]:List UInt8).toArray⟩],[.string ⟨([84,82,85,69]:List UInt8).toArray⟩,.string ⟨([70,65,76,83,69]:List UInt8).toArray⟩,.string ⟨([67,79,85,78,84]:List UInt8).toArray⟩,.string ⟨([83,85,77]:List UInt8).toArray⟩,.string ⟨([77,73,78]:List UInt8).toArray⟩,.string ⟨([77,65,88]:List UInt8).toArray⟩],rfl,rfl,⟨[.string ⟨([84,82,85,69]:List UInt8).toArray⟩],[.string ⟨([70,65,76,83,69]:List UInt8).toArray⟩,.string ⟨([67,79,85,78,84]:List UInt8).toArray⟩,.string ⟨([83,85,77]:List UInt8).toArray⟩,.string ⟨([77,73,78]:List UInt8).toArray⟩,.string ⟨([77,65,88]:List UInt8).toArray⟩],rfl,rfl,⟨[.string ⟨([70,65,76,83,69]:List UInt8).toArray⟩],[.string ⟨([67,79,85,78,84]:List UInt8).toArray⟩,.string ⟨([83,85,77]:List UInt8).toArray⟩,.string ⟨([77,73,78]:List UInt8).toArray⟩,.string ⟨([77,65,88]:List UInt8).toArray⟩],rfl,rfl,⟨[.string ⟨([67,79,85,78,84]:List UInt8).toArray⟩],[.string ⟨([83,85,77]:List UInt8).toArray⟩,.string ⟨([77,73,78]:List UInt8).toArray⟩,.string ⟨([77,65,88]:List UInt8).toArray⟩],rfl,rfl,⟨[.string ⟨([83,85,77]:List UInt8).toArray⟩],[.string ⟨([77,73,78]:List UInt8).toArray⟩,.string ⟨([77,65,88]:List UInt8).toArray⟩],rfl,rfl,⟨[.string ⟨([77,73,78]:List UInt8).toArray⟩],[.string ⟨([77,65,88]:List UInt8).toArray⟩],rfl,rfl,⟨[.string ⟨([77,65,88]:List UInt8).toArray⟩],[],rfl,rfl,(rfl:_=[])⟩⟩⟩⟩⟩⟩⟩⟩⟩⟩⟩⟩⟩⟩⟩⟩⟩⟩⟩⟩⟩⟩⟩⟩⟩⟩⟩⟩⟩

end Go.Proofs.YtmogpgcfognefaaGreatDoor

