/- cN of this claim: D. -/
import Derived.Test.YtnmjbolollcokaaGreatDoorRaV4
set_option linter.all false
namespace Go.Proofs.YtnmjbolollcokaaGreatDoor
open Go

structure dh where
 Kind:Int
 N:Int
 U:Int
 S:jy
 deriving DecidableEq,Inhabited
def de:Rp dh:=il (bP (rI .i64) (bP (rI .i64) (bP (rI .u64) rS))) (fun x=>(x.Kind,x.N,x.U,x.S))
theorem px:ib de 0 (rI .i64) (fun x=>x.Kind):=(cx bO)
theorem r0:dU de 0 (rI .i64) (fun x y=>{x with Kind:=y}):=bL cq (fun _ _=>rfl)
theorem sj:ib de 1 (rI .i64) (fun x=>x.N):=(cx (aK bO rfl))
theorem vO:dU de 1 (rI .i64) (fun x y=>{x with N:=y}):=bL (aI cq rfl) (fun _ _=>rfl)
theorem BR:ib de 2 (rI .u64) (fun x=>x.U):=(cx (aK (aK bO rfl) rfl))
theorem Bw:dU de 2 (rI .u64) (fun x y=>{x with U:=y}):=bL (aI (aI cq rfl) rfl) (fun _ _=>rfl)
theorem si:ib de 3 rS (fun x=>x.S):=(aK (aK (aK bO rfl) rfl) rfl)
theorem Bv:dU de 3 rS (fun x y=>{x with S:=y}):=bL (aI (aI (aI al rfl) rfl) rfl) (fun _ _=>rfl)
theorem p8: ∀S,de.rc S [.int .i64 0,.int .i64 0,.int .u64 0,.string ⟨#[]⟩] ((⟨(0:Int),(0:Int),(0:Int),[]⟩:dh)):=fun _=>⟨[.int .i64 0],[.int .i64 0,.int .u64 0,.string ⟨#[]⟩],rfl,rfl,⟨[.int .i64 0],[.int .u64 0,.string ⟨#[]⟩],rfl,rfl,⟨[.int .u64 0],[.string ⟨#[]⟩],rfl,rfl,rfl⟩⟩⟩
structure bT where
 Tag:Int
 L:Int
 R:Int
 Col:Int
 Value:dh
 deriving DecidableEq,Inhabited
def aY:Rp bT:=il (bP (rI .i64) (bP (rI .i64) (bP (rI .i64) (bP (rI .i64) de)))) (fun x=>(x.Tag,x.L,x.R,x.Col,x.Value))
theorem dZ:ib aY 0 (rI .i64) (fun x=>x.Tag):=(cx bO)
theorem pz:ib aY 1 (rI .i64) (fun x=>x.L):=(cx (aK bO rfl))
theorem BC:dU aY 1 (rI .i64) (fun x y=>{x with L:=y}):=bL (aI cq rfl) (fun _ _=>rfl)
theorem py:ib aY 2 (rI .i64) (fun x=>x.R):=(cx (aK (aK bO rfl) rfl))
theorem BB:dU aY 2 (rI .i64) (fun x y=>{x with R:=y}):=bL (aI (aI cq rfl) rfl) (fun _ _=>rfl)
theorem fL:ib aY 3 (rI .i64) (fun x=>x.Col):=(cx (aK (aK (aK bO rfl) rfl) rfl))
theorem nd:ib aY 4 de (fun x=>x.Value):=(aK (aK (aK (aK bO rfl) rfl) rfl) rfl)
theorem kK: ∀S,aY.rc S [.int .i64 0,.int .i64 0,.int .i64 0,.int .i64 0,.int .i64 0,.int .i64 0,.int .u64 0,.string ⟨#[]⟩] ((⟨(0:Int),(0:Int),(0:Int),(0:Int),(⟨(0:Int),(0:Int),(0:Int),[]⟩:dh)⟩:bT)):=fun _=>⟨[.int .i64 0],[.int .i64 0,.int .i64 0,.int .i64 0,.int .i64 0,.int .i64 0,.int .u64 0,.string ⟨#[]⟩],rfl,rfl,⟨[.int .i64 0],[.int .i64 0,.int .i64 0,.int .i64 0,.int .i64 0,.int .u64 0,.string ⟨#[]⟩],rfl,rfl,⟨[.int .i64 0],[.int .i64 0,.int .i64 0,.int .i64 0,.int .u64 0,.string ⟨#[]⟩],rfl,rfl,⟨[.int .i64 0],[.int .i64 0,.int .i64 0,.int .u64 0,.string ⟨#[]⟩],rfl,rfl,p8 _⟩⟩⟩⟩
structure bA where
 Nodes:(List bT)
 deriving DecidableEq,Inhabited
def bu:Rp bA:=il (dG aY) (fun x=>(x.Nodes))
theorem cC:ib bu 0 (dG aY) (fun x=>x.Nodes):=bO
theorem tN:dU bu 0 (dG aY) (fun x y=>{x with Nodes:=y}):=bL al (fun _ _=>rfl)
theorem mD: ∀S,bu.rc S [.slice none 0 0] ((⟨[]⟩:bA)):=fun _=>⟨none,0,rfl,fG _,iQ _,.inl rfl⟩
structure kF where
 Tag:Int
 Arg:bA
 deriving DecidableEq,Inhabited
def df:Rp kF:=il (bP (rI .i64) bu) (fun x=>(x.Tag,x.Arg))
theorem s7:ib df 0 (rI .i64) (fun x=>x.Tag):=(cx bO)
theorem Ad:dU df 0 (rI .i64) (fun x y=>{x with Tag:=y}):=bL cq (fun _ _=>rfl)
theorem qJ:ib df 1 bu (fun x=>x.Arg):=(aK bO rfl)
theorem EN:dU df 1 bu (fun x y=>{x with Arg:=y}):=bL (aI al rfl) (fun _ _=>rfl)
theorem tH: ∀S,df.rc S [.int .i64 0,.slice none 0 0] ((⟨(0:Int),(⟨[]⟩:bA)⟩:kF)):=fun _=>⟨[.int .i64 0],[.slice none 0 0],rfl,rfl,mD _⟩
structure jP where
 Col:Int
 Desc:Bool
 deriving DecidableEq,Inhabited
def gE:Rp jP:=il (bP (rI .i64) rB) (fun x=>(x.Col,x.Desc))
theorem AF:ib gE 0 (rI .i64) (fun x=>x.Col):=(cx bO)
structure ai where
 Op:Int
 A:Int
 B:Int
 Table:Int
 Kinds:(List Int)
 Left:Bool
 Cond:bA
 Keys:(List Int)
 Aggs:(List kF)
 Items:(List bA)
 Order:(List jP)
 Limit:Int
 deriving DecidableEq,Inhabited
def aj:Rp ai:=il (bP (rI .i64) (bP (rI .i64) (bP (rI .i64) (bP (rI .i64) (bP (dG (rI .i64)) (bP rB (bP bu (bP (dG (rI .i64)) (bP (dG df) (bP (dG bu) (bP (dG gE) (rI .i64)))))))))))) (fun x=>(x.Op,x.A,x.B,x.Table,x.Kinds,x.Left,x.Cond,x.Keys,x.Aggs,x.Items,x.Order,x.Limit))
theorem ju:ib aj 0 (rI .i64) (fun x=>x.Op):=(cx bO)
theorem o7:dU aj 0 (rI .i64) (fun x y=>{x with Op:=y}):=bL cq (fun _ _=>rfl)
theorem dn:ib aj 1 (rI .i64) (fun x=>x.A):=(cx (aK bO rfl))
theorem lu:dU aj 1 (rI .i64) (fun x y=>{x with A:=y}):=bL (aI cq rfl) (fun _ _=>rfl)
theorem fK:ib aj 2 (rI .i64) (fun x=>x.B):=(cx (aK (aK bO rfl) rfl))
theorem kd:dU aj 2 (rI .i64) (fun x y=>{x with B:=y}):=bL (aI (aI cq rfl) rfl) (fun _ _=>rfl)
theorem jt:ib aj 3 (rI .i64) (fun x=>x.Table):=(cx (aK (aK (aK bO rfl) rfl) rfl))
theorem sb:dU aj 3 (rI .i64) (fun x y=>{x with Table:=y}):=bL (aI (aI (aI cq rfl) rfl) rfl) (fun _ _=>rfl)
theorem js:ib aj 4 (dG (rI .i64)) (fun x=>x.Kinds):=(cx (aK (aK (aK (aK bO rfl) rfl) rfl) rfl))
theorem o6:dU aj 4 (dG (rI .i64)) (fun x y=>{x with Kinds:=y}):=bL (aI (aI (aI (aI cq rfl) rfl) rfl) rfl) (fun _ _=>rfl)
theorem BS:ib aj 5 rB (fun x=>x.Left):=(cx (aK (aK (aK (aK (aK bO rfl) rfl) rfl) rfl) rfl))
theorem BA:dU aj 5 rB (fun x y=>{x with Left:=y}):=bL (aI (aI (aI (aI (aI cq rfl) rfl) rfl) rfl) rfl) (fun _ _=>rfl)
theorem kj:ib aj 6 bu (fun x=>x.Cond):=(cx (aK (aK (aK (aK (aK (aK bO rfl) rfl) rfl) rfl) rfl) rfl))
theorem sa:dU aj 6 bu (fun x y=>{x with Cond:=y}):=bL (aI (aI (aI (aI (aI (aI cq rfl) rfl) rfl) rfl) rfl) rfl) (fun _ _=>rfl)
theorem gM:ib aj 7 (dG (rI .i64)) (fun x=>x.Keys):=(cx (aK (aK (aK (aK (aK (aK (aK bO rfl) rfl) rfl) rfl) rfl) rfl) rfl))
theorem vS:dU aj 7 (dG (rI .i64)) (fun x y=>{x with Keys:=y}):=bL (aI (aI (aI (aI (aI (aI (aI cq rfl) rfl) rfl) rfl) rfl) rfl) rfl) (fun _ _=>rfl)
theorem iA:ib aj 8 (dG df) (fun x=>x.Aggs):=(cx (aK (aK (aK (aK (aK (aK (aK (aK bO rfl) rfl) rfl) rfl) rfl) rfl) rfl) rfl))
theorem vR:dU aj 8 (dG df) (fun x y=>{x with Aggs:=y}):=bL (aI (aI (aI (aI (aI (aI (aI (aI cq rfl) rfl) rfl) rfl) rfl) rfl) rfl) rfl) (fun _ _=>rfl)
theorem gL:ib aj 9 (dG bu) (fun x=>x.Items):=(cx (aK (aK (aK (aK (aK (aK (aK (aK (aK bO rfl) rfl) rfl) rfl) rfl) rfl) rfl) rfl) rfl))
theorem Bz:dU aj 9 (dG bu) (fun x y=>{x with Items:=y}):=bL (aI (aI (aI (aI (aI (aI (aI (aI (aI cq rfl) rfl) rfl) rfl) rfl) rfl) rfl) rfl) rfl) (fun _ _=>rfl)
theorem md:ib aj 10 (dG gE) (fun x=>x.Order):=(cx (aK (aK (aK (aK (aK (aK (aK (aK (aK (aK bO rfl) rfl) rfl) rfl) rfl) rfl) rfl) rfl) rfl) rfl))
theorem uF:dU aj 10 (dG gE) (fun x y=>{x with Order:=y}):=bL (aI (aI (aI (aI (aI (aI (aI (aI (aI (aI cq rfl) rfl) rfl) rfl) rfl) rfl) rfl) rfl) rfl) rfl) (fun _ _=>rfl)
theorem qI:ib aj 11 (rI .i64) (fun x=>x.Limit):=(aK (aK (aK (aK (aK (aK (aK (aK (aK (aK (aK bO rfl) rfl) rfl) rfl) rfl) rfl) rfl) rfl) rfl) rfl) rfl)
theorem Ac:dU aj 11 (rI .i64) (fun x y=>{x with Limit:=y}):=bL (aI (aI (aI (aI (aI (aI (aI (aI (aI (aI (aI al rfl) rfl) rfl) rfl) rfl) rfl) rfl) rfl) rfl) rfl) rfl) (fun _ _=>rfl)
theorem gX: ∀S,aj.rc S [.int .i64 0,.int .i64 0,.int .i64 0,.int .i64 0,.slice none 0 0,.bool false,.slice none 0 0,.slice none 0 0,.slice none 0 0,.slice none 0 0,.slice none 0 0,.int .i64 0] ((⟨(0:Int),(0:Int),(0:Int),(0:Int),[],false,(⟨[]⟩:bA),[],[],[],[],(0:Int)⟩:ai)):=fun _=>⟨[.int .i64 0],[.int .i64 0,.int .i64 0,.int .i64 0,.slice none 0 0,.bool false,.slice none 0 0,.slice none 0 0,.slice none 0 0,.slice none 0 0,.slice none 0 0,.int .i64 0],rfl,rfl,⟨[.int .i64 0],[.int .i64 0,.int .i64 0,.slice none 0 0,.bool false,.slice none 0 0,.slice none 0 0,.slice none 0 0,.slice none 0 0,.slice none 0 0,.int .i64 0],rfl,rfl,⟨[.int .i64 0],[.int .i64 0,.slice none 0 0,.bool false,.slice none 0 0,.slice none 0 0,.slice none 0 0,.slice none 0 0,.slice none 0 0,.int .i64 0],rfl,rfl,⟨[.int .i64 0],[.slice none 0 0,.bool false,.slice none 0 0,.slice none 0 0,.slice none 0 0,.slice none 0 0,.slice none 0 0,.int .i64 0],rfl,rfl,⟨[.slice none 0 0],[.bool false,.slice none 0 0,.slice none 0 0,.slice none 0 0,.slice none 0 0,.slice none 0 0,.int .i64 0],rfl,⟨none,0,rfl,fG _,iQ _,.inl rfl⟩,⟨[.bool false],[.slice none 0 0,.slice none 0 0,.slice none 0 0,.slice none 0 0,.slice none 0 0,.int .i64 0],rfl,rfl,⟨[.slice none 0 0],[.slice none 0 0,.slice none 0 0,.slice none 0 0,.slice none 0 0,.int .i64 0],rfl,mD _,⟨[.slice none 0 0],[.slice none 0 0,.slice none 0 0,.slice none 0 0,.int .i64 0],rfl,⟨none,0,rfl,fG _,iQ _,.inl rfl⟩,⟨[.slice none 0 0],[.slice none 0 0,.slice none 0 0,.int .i64 0],rfl,⟨none,0,rfl,fG _,iQ _,.inl rfl⟩,⟨[.slice none 0 0],[.slice none 0 0,.int .i64 0],rfl,⟨none,0,rfl,fG _,iQ _,.inl rfl⟩,⟨[.slice none 0 0],[.int .i64 0],rfl,⟨none,0,rfl,fG _,iQ _,.inl rfl⟩,rfl⟩⟩⟩⟩⟩⟩⟩⟩⟩⟩⟩
structure cI where
 Nodes:(List ai)
 deriving DecidableEq,Inhabited
def cv:Rp cI:=il (dG aj) (fun x=>(x.Nodes))
theorem gK:ib cv 0 (dG aj) (fun x=>x.Nodes):=bO
theorem By:dU cv 0 (dG aj) (fun x y=>{x with Nodes:=y}):=bL al (fun _ _=>rfl)
theorem lT: ∀S,cv.rc S [.slice none 0 0] ((⟨[]⟩:cI)):=fun _=>⟨none,0,rfl,fG _,iQ _,.inl rfl⟩
structure aB where
 Logic:cI
 kinds:(List (List Int))
 first:(List Int)
 deriving DecidableEq,Inhabited
def aZ:Rp aB:=il (bP cv (bP (dG (dG (rI .i64))) (dG (rI .i64)))) (fun x=>(x.Logic,x.kinds,x.first))
theorem pw:ib aZ 0 cv (fun x=>x.Logic):=(cx bO)
theorem yP:dU aZ 0 cv (fun x y=>{x with Logic:=y}):=bL cq (fun _ _=>rfl)
theorem zg:ib aZ 1 (dG (dG (rI .i64))) (fun x=>x.kinds):=(cx (aK bO rfl))
theorem yO:dU aZ 1 (dG (dG (rI .i64))) (fun x y=>{x with kinds:=y}):=bL (aI cq rfl) (fun _ _=>rfl)
theorem s6:ib aZ 2 (dG (rI .i64)) (fun x=>x.first):=(aK (aK bO rfl) rfl)
theorem yN:dU aZ 2 (dG (rI .i64)) (fun x y=>{x with first:=y}):=bL (aI (aI al rfl) rfl) (fun _ _=>rfl)
theorem Bj: ∀S,aZ.rc S [.slice none 0 0,.slice none 0 0,.slice none 0 0] ((⟨(⟨[]⟩:cI),[],[]⟩:aB)):=fun _=>⟨[.slice none 0 0],[.slice none 0 0,.slice none 0 0],rfl,lT _,⟨[.slice none 0 0],[.slice none 0 0],rfl,⟨none,0,rfl,fG _,iQ _,.inl rfl⟩,⟨none,0,rfl,fG _,iQ _,.inl rfl⟩⟩⟩
structure bX where
 Name:jy
 Kind:Int
 deriving DecidableEq,Inhabited
def cX:Rp bX:=il (bP rS (rI .i64)) (fun x=>(x.Name,x.Kind))
theorem AG:ib cX 0 rS (fun x=>x.Name):=(cx bO)
theorem qh:dU cX 0 rS (fun x y=>{x with Name:=y}):=bL cq (fun _ _=>rfl)
theorem uO:ib cX 1 (rI .i64) (fun x=>x.Kind):=(aK bO rfl)
theorem qg:dU cX 1 (rI .i64) (fun x y=>{x with Kind:=y}):=bL (aI al rfl) (fun _ _=>rfl)
theorem mO: ∀S,cX.rc S [.string ⟨#[]⟩,.int .i64 0] ((⟨[],(0:Int)⟩:bX)):=fun _=>⟨[.string ⟨#[]⟩],[.int .i64 0],rfl,rfl,rfl⟩
structure wP where
 word:jy
 kind:Int
 deriving DecidableEq,Inhabited
def o9:Rp wP:=il (bP rS (rI .i64)) (fun x=>(x.word,x.kind))
theorem D0:ib o9 0 rS (fun x=>x.word):=(cx bO)
theorem DZ:ib o9 1 (rI .i64) (fun x=>x.kind):=(aK bO rfl)
theorem F6: ∀S,o9.rc S [.string ⟨#[]⟩,.int .i64 0] ((⟨[],(0:Int)⟩:wP)):=fun _=>⟨[.string ⟨#[]⟩],[.int .i64 0],rfl,rfl,rfl⟩
structure ci where
 Name:jy
 Columns:(List bX)
 Keys:(List Int)
 deriving DecidableEq,Inhabited
def c0:Rp ci:=il (bP rS (bP (dG cX) (dG (rI .i64)))) (fun x=>(x.Name,x.Columns,x.Keys))
theorem wo:ib c0 0 rS (fun x=>x.Name):=(cx bO)
theorem vQ:dU c0 0 rS (fun x y=>{x with Name:=y}):=bL cq (fun _ _=>rfl)
theorem lG:ib c0 1 (dG cX) (fun x=>x.Columns):=(cx (aK bO rfl))
theorem vP:dU c0 1 (dG cX) (fun x y=>{x with Columns:=y}):=bL (aI cq rfl) (fun _ _=>rfl)
theorem sk:ib c0 2 (dG (rI .i64)) (fun x=>x.Keys):=(aK (aK bO rfl) rfl)
theorem Bx:dU c0 2 (dG (rI .i64)) (fun x y=>{x with Keys:=y}):=bL (aI (aI al rfl) rfl) (fun _ _=>rfl)
theorem vF: ∀S,c0.rc S [.string ⟨#[]⟩,.slice none 0 0,.slice none 0 0] ((⟨[],[],[]⟩:ci)):=fun _=>⟨[.string ⟨#[]⟩],[.slice none 0 0,.slice none 0 0],rfl,rfl,⟨[.slice none 0 0],[.slice none 0 0],rfl,⟨none,0,rfl,fG _,iQ _,.inl rfl⟩,⟨none,0,rfl,fG _,iQ _,.inl rfl⟩⟩⟩
structure fi where
 Tables:(List ci)
 deriving DecidableEq,Inhabited
def dY:Rp fi:=il (dG c0) (fun x=>(x.Tables))
theorem jL:ib dY 0 (dG c0) (fun x=>x.Tables):=bO
theorem yQ:dU dY 0 (dG c0) (fun x y=>{x with Tables:=y}):=bL al (fun _ _=>rfl)
theorem rR: ∀S,dY.rc S [.slice none 0 0] ((⟨[]⟩:fi)):=fun _=>⟨none,0,rfl,fG _,iQ _,.inl rfl⟩
structure cz where
 Nodes:(List ai)
 At:Int
 Way:Int
 Cols:(List Int)
 deriving DecidableEq,Inhabited
def aR:Rp cz:=il (bP (dG aj) (bP (rI .i64) (bP (rI .i64) (dG (rI .i64))))) (fun x=>(x.Nodes,x.At,x.Way,x.Cols))
theorem ky:ib aR 0 (dG aj) (fun x=>x.Nodes):=(cx bO)
theorem xz:dU aR 0 (dG aj) (fun x y=>{x with Nodes:=y}):=bL cq (fun _ _=>rfl)
theorem xQ:ib aR 1 (rI .i64) (fun x=>x.At):=(cx (aK bO rfl))
theorem xy:dU aR 1 (rI .i64) (fun x y=>{x with At:=y}):=bL (aI cq rfl) (fun _ _=>rfl)
theorem xx:dU aR 2 (rI .i64) (fun x y=>{x with Way:=y}):=bL (aI (aI cq rfl) rfl) (fun _ _=>rfl)
theorem D1:ib aR 3 (dG (rI .i64)) (fun x=>x.Cols):=(aK (aK (aK bO rfl) rfl) rfl)
theorem DB:dU aR 3 (dG (rI .i64)) (fun x y=>{x with Cols:=y}):=bL (aI (aI (aI al rfl) rfl) rfl) (fun _ _=>rfl)
theorem sA: ∀S,aR.rc S [.slice none 0 0,.int .i64 0,.int .i64 0,.slice none 0 0] ((⟨[],(0:Int),(0:Int),[]⟩:cz)):=fun _=>⟨[.slice none 0 0],[.int .i64 0,.int .i64 0,.slice none 0 0],rfl,⟨none,0,rfl,fG _,iQ _,.inl rfl⟩,⟨[.int .i64 0],[.int .i64 0,.slice none 0 0],rfl,rfl,⟨[.int .i64 0],[.slice none 0 0],rfl,rfl,⟨none,0,rfl,fG _,iQ _,.inl rfl⟩⟩⟩⟩
structure bI where
 Frags:(List cz)
 deriving DecidableEq,Inhabited
def br:Rp bI:=il (dG aR) (fun x=>(x.Frags))
theorem dF:ib br 0 (dG aR) (fun x=>x.Frags):=bO
theorem xw:dU br 0 (dG aR) (fun x y=>{x with Frags:=y}):=bL al (fun _ _=>rfl)
theorem oW: ∀S,br.rc S [.slice none 0 0] ((⟨[]⟩:bI)):=fun _=>⟨none,0,rfl,fG _,iQ _,.inl rfl⟩
structure aD where
 Plan:bI
 tree:cI
 catalog:fi
 kinds:(List (List Int))
 deriving DecidableEq,Inhabited
def aJ:Rp aD:=il (bP br (bP cv (bP dY (dG (dG (rI .i64)))))) (fun x=>(x.Plan,x.tree,x.catalog,x.kinds))
theorem pu:ib aJ 0 br (fun x=>x.Plan):=(cx bO)
theorem sF:dU aJ 0 br (fun x y=>{x with Plan:=y}):=bL cq (fun _ _=>rfl)
theorem zf:ib aJ 1 cv (fun x=>x.tree):=(cx (aK bO rfl))
theorem yM:dU aJ 1 cv (fun x y=>{x with tree:=y}):=bL (aI cq rfl) (fun _ _=>rfl)
theorem ze:ib aJ 2 dY (fun x=>x.catalog):=(cx (aK (aK bO rfl) rfl))
theorem yL:dU aJ 2 dY (fun x y=>{x with catalog:=y}):=bL (aI (aI cq rfl) rfl) (fun _ _=>rfl)
theorem yK:dU aJ 3 (dG (dG (rI .i64))) (fun x y=>{x with kinds:=y}):=bL (aI (aI (aI al rfl) rfl) rfl) (fun _ _=>rfl)
theorem Bi: ∀S,aJ.rc S [.slice none 0 0,.slice none 0 0,.slice none 0 0,.slice none 0 0] ((⟨(⟨[]⟩:bI),(⟨[]⟩:cI),(⟨[]⟩:fi),[]⟩:aD)):=fun _=>⟨[.slice none 0 0],[.slice none 0 0,.slice none 0 0,.slice none 0 0],rfl,oW _,⟨[.slice none 0 0],[.slice none 0 0,.slice none 0 0],rfl,lT _,⟨[.slice none 0 0],[.slice none 0 0],rfl,rR _,⟨none,0,rfl,fG _,iQ _,.inl rfl⟩⟩⟩⟩
structure bb where
 nodes:(List ai)
 kinds:(List Int)
 at_:Int
 hashed:(List Int)
 deriving DecidableEq,Inhabited
def ah:Rp bb:=il (bP (dG aj) (bP (dG (rI .i64)) (bP (rI .i64) (dG (rI .i64))))) (fun x=>(x.nodes,x.kinds,x.at_,x.hashed))
theorem uh:ib ah 0 (dG aj) (fun x=>x.nodes):=(cx bO)
theorem xv:dU ah 0 (dG aj) (fun x y=>{x with nodes:=y}):=bL cq (fun _ _=>rfl)
theorem ug:ib ah 1 (dG (rI .i64)) (fun x=>x.kinds):=(cx (aK bO rfl))
theorem xu:dU ah 1 (dG (rI .i64)) (fun x y=>{x with kinds:=y}):=bL (aI cq rfl) (fun _ _=>rfl)
theorem hT:ib ah 2 (rI .i64) (fun x=>x.at_):=(cx (aK (aK bO rfl) rfl))
theorem xr:dU ah 2 (rI .i64) (fun x y=>{x with at_:=y}):=bL (aI (aI cq rfl) rfl) (fun _ _=>rfl)
theorem fF:ib ah 3 (dG (rI .i64)) (fun x=>x.hashed):=(aK (aK (aK bO rfl) rfl) rfl)
theorem q0:dU ah 3 (dG (rI .i64)) (fun x y=>{x with hashed:=y}):=bL (aI (aI (aI al rfl) rfl) rfl) (fun _ _=>rfl)
theorem dz: ∀S,ah.rc S [.slice none 0 0,.slice none 0 0,.int .i64 0,.slice none 0 0] ((⟨[],[],(0:Int),[]⟩:bb)):=fun _=>⟨[.slice none 0 0],[.slice none 0 0,.int .i64 0,.slice none 0 0],rfl,⟨none,0,rfl,fG _,iQ _,.inl rfl⟩,⟨[.slice none 0 0],[.int .i64 0,.slice none 0 0],rfl,⟨none,0,rfl,fG _,iQ _,.inl rfl⟩,⟨[.int .i64 0],[.slice none 0 0],rfl,rfl,⟨none,0,rfl,fG _,iQ _,.inl rfl⟩⟩⟩⟩
structure aN where
 Frag:Int
 From:Int
 To:Int
 deriving DecidableEq,Inhabited
def bC:Rp aN:=il (bP (rI .i64) (bP (rI .i64) (rI .i64))) (fun x=>(x.Frag,x.From,x.To))
theorem nT:ib bC 0 (rI .i64) (fun x=>x.Frag):=(cx bO)
theorem lZ:dU bC 0 (rI .i64) (fun x y=>{x with Frag:=y}):=bL cq (fun _ _=>rfl)
theorem nS:ib bC 1 (rI .i64) (fun x=>x.From):=(cx (aK bO rfl))
theorem lY:dU bC 1 (rI .i64) (fun x y=>{x with From:=y}):=bL (aI cq rfl) (fun _ _=>rfl)
theorem nR:ib bC 2 (rI .i64) (fun x=>x.To):=(aK (aK bO rfl) rfl)
theorem lX:dU bC 2 (rI .i64) (fun x y=>{x with To:=y}):=bL (aI (aI al rfl) rfl) (fun _ _=>rfl)
theorem mN: ∀S,bC.rc S [.int .i64 0,.int .i64 0,.int .i64 0] ((⟨(0:Int),(0:Int),(0:Int)⟩:aN)):=fun _=>⟨[.int .i64 0],[.int .i64 0,.int .i64 0],rfl,rfl,⟨[.int .i64 0],[.int .i64 0],rfl,rfl,rfl⟩⟩
structure uu where
 Frag:Int
 Nodes:Int
 Node:Int
 deriving DecidableEq,Inhabited
def qk:Rp uu:=il (bP (rI .i64) (bP (rI .i64) (rI .i64))) (fun x=>(x.Frag,x.Nodes,x.Node))
theorem gJ:ib qk 0 (rI .i64) (fun x=>x.Frag):=(cx bO)
theorem gI:ib qk 1 (rI .i64) (fun x=>x.Nodes):=(cx (aK bO rfl))
theorem nc:ib qk 2 (rI .i64) (fun x=>x.Node):=(aK (aK bO rfl) rfl)
structure DSide where
 Frags:(List cz)
 Nodes:(List ai)
 Kinds:(List Int)
 One:Bool
 Hashed:(List Int)
 deriving DecidableEq,Inhabited
structure AX where
 Nodes:Value
def ke:Rp AX:=il rV (fun x=>(x.Nodes))
theorem zc:ib ke 0 rV (fun x=>x.Nodes):=bO
def lD(y:cI)(v0:Value):AX:=⟨v0⟩
theorem Bh: ∀S,ke.rc S [.slice none 0 0] (lD ((⟨[]⟩:cI)) (aC none 0 0)):=fun _=>⟨rfl,rfl⟩
structure C4 where
 Nodes:Value
def jD:Rp C4:=il rV (fun x=>(x.Nodes))
theorem uN:ib jD 0 rV (fun x=>x.Nodes):=bO
theorem Ab:dU jD 0 rV (fun x y=>{x with Nodes:=y}):=bL al (fun _ _=>rfl)
def kw(y:bA)(v0:Value):C4:=⟨v0⟩
theorem xk: ∀S,jD.rc S [.slice none 0 0] (kw ((⟨[]⟩:bA)) (aC none 0 0)):=fun _=>⟨rfl,rfl⟩
structure AY where
 Op:Int
 A:Int
 B:Int
 Table:Int
 Kinds:(List Int)
 Left:Bool
 Cond:bA
 Keys:(List Int)
 Aggs:Value
 Items:(List bA)
 Order:(List jP)
 Limit:Int
def fJ:Rp AY:=il (bP (rI .i64) (bP (rI .i64) (bP (rI .i64) (bP (rI .i64) (bP (dG (rI .i64)) (bP rB (bP bu (bP (dG (rI .i64)) (bP rV (bP (dG bu) (bP (dG gE) (rI .i64)))))))))))) (fun x=>(x.Op,x.A,x.B,x.Table,x.Kinds,x.Left,x.Cond,x.Keys,x.Aggs,x.Items,x.Order,x.Limit))
theorem yJ:dU fJ 0 (rI .i64) (fun x y=>{x with Op:=y}):=bL cq (fun _ _=>rfl)
theorem yI:dU fJ 7 (dG (rI .i64)) (fun x y=>{x with Keys:=y}):=bL (aI (aI (aI (aI (aI (aI (aI cq rfl) rfl) rfl) rfl) rfl) rfl) rfl) (fun _ _=>rfl)
theorem zd:ib fJ 8 rV (fun x=>x.Aggs):=(cx (aK (aK (aK (aK (aK (aK (aK (aK bO rfl) rfl) rfl) rfl) rfl) rfl) rfl) rfl))
def ip(y:ai)(v8:Value):AY:=⟨y.Op,y.A,y.B,y.Table,y.Kinds,y.Left,y.Cond,y.Keys,v8,y.Items,y.Order,y.Limit⟩
theorem vE: ∀S,fJ.rc S [.int .i64 0,.int .i64 0,.int .i64 0,.int .i64 0,.slice none 0 0,.bool false,.slice none 0 0,.slice none 0 0,.slice none 0 0,.slice none 0 0,.slice none 0 0,.int .i64 0] (ip ((⟨(0:Int),(0:Int),(0:Int),(0:Int),[],false,(⟨[]⟩:bA),[],[],[],[],(0:Int)⟩:ai)) (aC none 0 0)):=fun _=>⟨[.int .i64 0],[.int .i64 0,.int .i64 0,.int .i64 0,.slice none 0 0,.bool false,.slice none 0 0,.slice none 0 0,.slice none 0 0,.slice none 0 0,.slice none 0 0,.int .i64 0],rfl,rfl,⟨[.int .i64 0],[.int .i64 0,.int .i64 0,.slice none 0 0,.bool false,.slice none 0 0,.slice none 0 0,.slice none 0 0,.slice none 0 0,.slice none 0 0,.int .i64 0],rfl,rfl,⟨[.int .i64 0],[.int .i64 0,.slice none 0 0,.bool false,.slice none 0 0,.slice none 0 0,.slice none 0 0,.slice none 0 0,.slice none 0 0,.int .i64 0],rfl,rfl,⟨[.int .i64 0],[.slice none 0 0,.bool false,.slice none 0 0,.slice none 0 0,.slice none 0 0,.slice none 0 0,.slice none 0 0,.int .i64 0],rfl,rfl,⟨[.slice none 0 0],[.bool false,.slice none 0 0,.slice none 0 0,.slice none 0 0,.slice none 0 0,.slice none 0 0,.int .i64 0],rfl,⟨none,0,rfl,fG _,iQ _,.inl rfl⟩,⟨[.bool false],[.slice none 0 0,.slice none 0 0,.slice none 0 0,.slice none 0 0,.slice none 0 0,.int .i64 0],rfl,rfl,⟨[.slice none 0 0],[.slice none 0 0,.slice none 0 0,.slice none 0 0,.slice none 0 0,.int .i64 0],rfl,mD _,⟨[.slice none 0 0],[.slice none 0 0,.slice none 0 0,.slice none 0 0,.int .i64 0],rfl,⟨none,0,rfl,fG _,iQ _,.inl rfl⟩,⟨[.slice none 0 0],[.slice none 0 0,.slice none 0 0,.int .i64 0],rfl,⟨rfl,rfl⟩,⟨[.slice none 0 0],[.slice none 0 0,.int .i64 0],rfl,⟨none,0,rfl,fG _,iQ _,.inl rfl⟩,⟨[.slice none 0 0],[.int .i64 0],rfl,⟨none,0,rfl,fG _,iQ _,.inl rfl⟩,rfl⟩⟩⟩⟩⟩⟩⟩⟩⟩⟩⟩
structure wM where
 Op:Int
 A:Int
 B:Int
 Table:Int
 Kinds:(List Int)
 Left:Bool
 Cond:bA
 Keys:(List Int)
 Aggs:Value
 Items:Value
 Order:(List jP)
 Limit:Int
def gm:Rp wM:=il (bP (rI .i64) (bP (rI .i64) (bP (rI .i64) (bP (rI .i64) (bP (dG (rI .i64)) (bP rB (bP bu (bP (dG (rI .i64)) (bP rV (bP rV (bP (dG gE) (rI .i64)))))))))))) (fun x=>(x.Op,x.A,x.B,x.Table,x.Kinds,x.Left,x.Cond,x.Keys,x.Aggs,x.Items,x.Order,x.Limit))
theorem nb:ib gm 8 rV (fun x=>x.Aggs):=(cx (aK (aK (aK (aK (aK (aK (aK (aK bO rfl) rfl) rfl) rfl) rfl) rfl) rfl) rfl))
theorem na:ib gm 9 rV (fun x=>x.Items):=(cx (aK (aK (aK (aK (aK (aK (aK (aK (aK bO rfl) rfl) rfl) rfl) rfl) rfl) rfl) rfl) rfl))
def jJ(y:ai)(v8:Value)(v9:Value):wM:=⟨y.Op,y.A,y.B,y.Table,y.Kinds,y.Left,y.Cond,y.Keys,v8,v9,y.Order,y.Limit⟩
structure C3 where
 nodes:Value
 kinds:(List Int)
 at_:Int
 hashed:(List Int)
def f9:Rp C3:=il (bP rV (bP (dG (rI .i64)) (bP (rI .i64) (dG (rI .i64))))) (fun x=>(x.nodes,x.kinds,x.at_,x.hashed))
theorem mb:ib f9 0 rV (fun x=>x.nodes):=(cx bO)
theorem Aa:dU f9 1 (dG (rI .i64)) (fun x y=>{x with kinds:=y}):=bL (aI cq rfl) (fun _ _=>rfl)
theorem z8:dU f9 2 (rI .i64) (fun x y=>{x with at_:=y}):=bL (aI (aI cq rfl) rfl) (fun _ _=>rfl)
def iN(y:bb)(v0:Value):C3:=⟨v0,y.kinds,y.at_,y.hashed⟩
theorem xj: ∀S,f9.rc S [.slice none 0 0,.slice none 0 0,.int .i64 0,.slice none 0 0] (iN ((⟨[],[],(0:Int),[]⟩:bb)) (aC none 0 0)):=fun _=>⟨[.slice none 0 0],[.slice none 0 0,.int .i64 0,.slice none 0 0],rfl,⟨rfl,rfl⟩,⟨[.slice none 0 0],[.int .i64 0,.slice none 0 0],rfl,⟨none,0,rfl,fG _,iQ _,.inl rfl⟩,⟨[.int .i64 0],[.slice none 0 0],rfl,rfl,⟨none,0,rfl,fG _,iQ _,.inl rfl⟩⟩⟩⟩
theorem vf{S:SH}{cs:List Value}{y:cI}{v0:Value}{xs0:(List ai)}(k0:(dG aj).rc S [v0] xs0)(h:ke.rc S cs (lD y v0)):cv.rc S cs ((⟨xs0⟩:cI)):=by
 have h0:=h
 exact(by rw [h0.1];exact k0)
theorem wB{S:SH}{cs:List Value}{y:bA}{v0:Value}{xs0:(List bT)}(k0:(dG aY).rc S [v0] xs0)(h:jD.rc S cs (kw y v0)):bu.rc S cs ((⟨xs0⟩:bA)):=by
 have h0:=h
 exact(by rw [h0.1];exact k0)
theorem vg{S:SH}{cs:List Value}{y:ai}{v8:Value}{xs8:(List kF)}(k8:(dG df).rc S [v8] xs8)(h:fJ.rc S cs (ip y v8)):aj.rc S cs ((⟨y.Op,y.A,y.B,y.Table,y.Kinds,y.Left,y.Cond,y.Keys,xs8,y.Items,y.Order,y.Limit⟩:ai)):=by
 obtain⟨a0,b0,e0,h0,a1,b1,e1,h1,a2,b2,e2,h2,a3,b3,e3,h3,a4,b4,e4,h4,a5,b5,e5,h5,a6,b6,e6,h6,a7,b7,e7,h7,a8,b8,e8,h8,a9,b9,e9,h9,a10,b10,e10,h10,h11⟩:=h
 exact⟨a0,b0,e0,h0,a1,b1,e1,h1,a2,b2,e2,h2,a3,b3,e3,h3,a4,b4,e4,h4,a5,b5,e5,h5,a6,b6,e6,h6,a7,b7,e7,h7,a8,b8,e8,(by rw [h8.1];exact k8),a9,b9,e9,h9,a10,b10,e10,h10,h11⟩
theorem tf{S:SH}{cs:List Value}{y:ai}{v8:Value}{v9:Value}{xs8:(List kF)}(k8:(dG df).rc S [v8] xs8){xs9:(List bA)}(k9:(dG bu).rc S [v9] xs9)(h:gm.rc S cs (jJ y v8 v9)):aj.rc S cs ((⟨y.Op,y.A,y.B,y.Table,y.Kinds,y.Left,y.Cond,y.Keys,xs8,xs9,y.Order,y.Limit⟩:ai)):=by
 obtain⟨a0,b0,e0,h0,a1,b1,e1,h1,a2,b2,e2,h2,a3,b3,e3,h3,a4,b4,e4,h4,a5,b5,e5,h5,a6,b6,e6,h6,a7,b7,e7,h7,a8,b8,e8,h8,a9,b9,e9,h9,a10,b10,e10,h10,h11⟩:=h
 exact⟨a0,b0,e0,h0,a1,b1,e1,h1,a2,b2,e2,h2,a3,b3,e3,h3,a4,b4,e4,h4,a5,b5,e5,h5,a6,b6,e6,h6,a7,b7,e7,h7,a8,b8,e8,(by rw [h8.1];exact k8),a9,b9,e9,(by rw [h9.1];exact k9),a10,b10,e10,h10,h11⟩
theorem wA{S:SH}{cs:List Value}{y:bb}{v0:Value}{xs0:(List ai)}(k0:(dG aj).rc S [v0] xs0)(h:f9.rc S cs (iN y v0)):ah.rc S cs ((⟨xs0,y.kinds,y.at_,y.hashed⟩:bb)):=by
 obtain⟨a0,b0,e0,h0,a1,b1,e1,h1,a2,b2,e2,h2,h3⟩:=h
 exact⟨a0,b0,e0,(by rw [h0.1];exact k0),a1,b1,e1,h1,a2,b2,e2,h2,h3⟩
theorem qb(y:cI)(u:Value)(v:Value):nl ke ke 0 rV (lD y u) v (lD y v):=sE (kr rfl) rfl
theorem rZ(y:ai)(v:Value):nl aj fJ 8 rV (y) v (ip y v):=sE (eb (eb (eb (eb (eb (eb (eb (eb (vk (kr rfl) rfl) rfl) rfl) rfl) rfl) rfl) rfl) rfl) rfl) rfl
theorem qc(y:ai)(u:Value)(v:Value):nl fJ fJ 8 rV (ip y u) v (ip y v):=sE (eb (eb (eb (eb (eb (eb (eb (eb (vk (kr rfl) rfl) rfl) rfl) rfl) rfl) rfl) rfl) rfl) rfl) rfl
theorem o0(y:ai)(v8:Value)(v:Value):nl fJ gm 9 rV (ip y v8) v (jJ y v8 v):=sE (eb (eb (eb (eb (eb (eb (eb (eb (eb (vk (kr rfl) rfl) rfl) rfl) rfl) rfl) rfl) rfl) rfl) rfl) rfl) rfl
theorem my(y:bb)(u:Value)(v:Value):nl f9 f9 0 rV (iN y u) v (iN y v):=sE (vk (kr rfl) rfl) rfl
def cE(b:Nat)(x:aB)(i:OI):List OE:=[bx (rH aZ [(1,aC (i.h 0).1 (i.h 0).2 x.kinds.length),(2,aC (i.h 1).1 (i.h 1).2 x.first.length)]) 123 b x,bV (dG (rI .i64)) 42 (i.h 0).1 (i.h 0).2 x.kinds,bV (rI .i64) 3 (i.h 1).1 (i.h 1).2 x.first]
def d5(b:Nat)(x:aD)(i:OI):List OE:=[bx (rH aJ [(0,aC (i.h 0).1 (i.h 0).2 x.Plan.Frags.length),(3,aC (i.h 1).1 (i.h 1).2 x.kinds.length)]) 91 b x,bV aR 74 (i.h 0).1 (i.h 0).2 x.Plan.Frags,bV (dG (rI .i64)) 42 (i.h 1).1 (i.h 1).2 x.kinds]
def LU:(List wP):=[(⟨[98,111,111,108],(1:Int)⟩:wP),(⟨[105,110,116],(2:Int)⟩:wP),(⟨[116,101,120,116],(3:Int)⟩:wP)]
theorem gm0:((0:Nat),([.string ⟨([98,111,111,108]:List UInt8).toArray⟩,.int .i64 (1),.string ⟨([105,110,116]:List UInt8).toArray⟩,.int .i64 (2),.string ⟨([116,101,120,116]:List UInt8).toArray⟩,.int .i64 (3)]:List Value))∈glob:=by simp [glob]
theorem gr0: ∀S,(oF o9 3).rc S ([.string ⟨([98,111,111,108]:List UInt8).toArray⟩,.int .i64 (1),.string ⟨([105,110,116]:List UInt8).toArray⟩,.int .i64 (2),.string ⟨([116,101,120,116]:List UInt8).toArray⟩,.int .i64 (3)]:List Value) LU:=fun _=>⟨rfl,⟨[.string ⟨([98,111,111,108]:List UInt8).toArray⟩,.int .i64 (1)],[.string ⟨([105,110,116]:List UInt8).toArray⟩,.int .i64 (2),.string ⟨([116,101,120,116]:List UInt8).toArray⟩,.int .i64 (3)],rfl,⟨[.string ⟨([98,111,111,108]:List UInt8).toArray⟩],[.int .i64 (1)],rfl,rfl,rfl⟩,⟨[.string ⟨([105,110,116]:List UInt8).toArray⟩,.int .i64 (2)],[.string ⟨([116,101,120,116]:List UInt8).toArray⟩,.int .i64 (3)],rfl,⟨[.string ⟨([105,110,116]:List UInt8).toArray⟩],[.int .i64 (2)],rfl,rfl,rfl⟩,⟨[.string ⟨([116,101,120,116]:List UInt8).toArray⟩,.int .i64 (3)],[],rfl,⟨[.string ⟨([116,101,120,116]:List UInt8).toArray⟩],[.int .i64 (3)],rfl,rfl,rfl⟩,(rfl:_=[])⟩⟩⟩⟩
def Mc:(List jy):=[[83,69,76,69,67,84],[68,73,83,84,73,78,67,84],[70,82,79,77],[76,69,70,84],[74,79,73,78],[79,78],[87,72,69,82,69],[71,82,79,85,80],[66,89],[72,65,86,73,78,71],[85,78,73,79,78],[65,76,76],[79,82,68,69,82],[76,73,77,73,84],[65,83,67],[68,69,83,67],[65,83],[65,78,68],[79,82],[78,79,84],[73,83],[78,85,76,76],[84,82,85,69],[70,65,76,83,69],[67,79,85,78,84],[83,85,77],[77,73,78],[77,65,88]]
theorem gm1:((1:Nat),([.string ⟨([83,69,76,69,67,84]:List UInt8).toArray⟩,.string ⟨([68,73,83,84,73,78,67,84]:List UInt8).toArray⟩,.string ⟨([70,82,79,77]:List UInt8).toArray⟩,.string ⟨([76,69,70,84]:List UInt8).toArray⟩,.string ⟨([74,79,73,78]:List UInt8).toArray⟩,.string ⟨([79,78]:List UInt8).toArray⟩,.string ⟨([87,72,69,82,69]:List UInt8).toArray⟩,.string ⟨([71,82,79,85,80]:List UInt8).toArray⟩,.string ⟨([66,89]:List UInt8).toArray⟩,.string ⟨([72,65,86,73,78,71]:List UInt8).toArray⟩,.string ⟨([85,78,73,79,78]:List UInt8).toArray⟩,.string ⟨([65,76,76]:List UInt8).toArray⟩,.string ⟨([79,82,68,69,82]:List UInt8).toArray⟩,.string ⟨([76,73,77,73,84]:List UInt8).toArray⟩,.string ⟨([65,83,67]:List UInt8).toArray⟩,.string ⟨([68,69,83,67]:List UInt8).toArray⟩,.string ⟨([65,83]:List UInt8).toArray⟩,.string ⟨([65,78,68]:List UInt8).toArray⟩,.string ⟨([79,82]:List UInt8).toArray⟩,.string ⟨([78,79,84]:List UInt8).toArray⟩,.string ⟨([73,83]:List UInt8).toArray⟩,.string ⟨([78,85,76,76]:List UInt8).toArray⟩,.string ⟨([84,82,85,69]:List UInt8).toArray⟩,.string ⟨([70,65,76,83,69]:List UInt8).toArray⟩,.string ⟨([67,79,85,78,84]:List UInt8).toArray⟩,.string ⟨([83,85,77]:List UInt8).toArray⟩,.string ⟨([77,73,78]:List UInt8).toArray⟩,.string ⟨([77,65,88]:List UInt8).toArray⟩]:List Value))∈glob:=by simp [glob]
theorem gr1: ∀S,(oF rS 28).rc S ([.string ⟨([83,69,76,69,67,84]:List UInt8).toArray⟩,.string ⟨([68,73,83,84,73,78,67,84]:List UInt8).toArray⟩,.string ⟨([70,82,79,77]:List UInt8).toArray⟩,.string ⟨([76,69,70,84]:List UInt8).toArray⟩,.string ⟨([74,79,73,78]:List UInt8).toArray⟩,.string ⟨([79,78]:List UInt8).toArray⟩,.string ⟨([87,72,69,82,69]:List UInt8).toArray⟩,.string ⟨([71,82,79,85,80]:List UInt8).toArray⟩,.string ⟨([66,89]:List UInt8).toArray⟩,.string ⟨([72,65,86,73,78,71]:List UInt8).toArray⟩,.string ⟨([85,78,73,79,78]:List UInt8).toArray⟩,.string ⟨([65,76,76]:List UInt8).toArray⟩,.string ⟨([79,82,68,69,82]:List UInt8).toArray⟩,.string ⟨([76,73,77,73,84]:List UInt8).toArray⟩,.string ⟨([65,83,67]:List UInt8).toArray⟩,.string ⟨([68,69,83,67]:List UInt8).toArray⟩,.string ⟨([65,83]:List UInt8).toArray⟩,.string ⟨([65,78,68]:List UInt8).toArray⟩,.string ⟨([79,82]:List UInt8).toArray⟩,.string ⟨([78,79,84]:List UInt8).toArray⟩,.string ⟨([73,83]:List UInt8).toArray⟩,.string ⟨([78,85,76,76]:List UInt8).toArray⟩,.string ⟨([84,82,85,69]:List UInt8).toArray⟩,.string ⟨([70,65,76,83,69]:List UInt8).toArray⟩,.string ⟨([67,79,85,78,84]:List UInt8).toArray⟩,.string ⟨([83,85,77]:List UInt8).toArray⟩,.string ⟨([77,73,78]:List UInt8).toArray⟩,.string ⟨([77,65,88]:List UInt8).toArray⟩]:List Value) Mc:=fun _=>⟨rfl,⟨[.string ⟨([83,69,76,69,67,84]:List UInt8).toArray⟩],[.string ⟨([68,73,83,84,73,78,67,84]:List UInt8).toArray⟩,.string ⟨([70,82,79,77]:List UInt8).toArray⟩,.string ⟨([76,69,70,84]:List UInt8).toArray⟩,.string ⟨([74,79,73,78]:List UInt8).toArray⟩,.string ⟨([79,78]:List UInt8).toArray⟩,.string ⟨([87,72,69,82,69]:List UInt8).toArray⟩,.string ⟨([71,82,79,85,80]:List UInt8).toArray⟩,.string ⟨([66,89]:List UInt8).toArray⟩,.string ⟨([72,65,86,73,78,71]:List UInt8).toArray⟩,.string ⟨([85,78,73,79,78]:List UInt8).toArray⟩,.string ⟨([65,76,76]:List UInt8).toArray⟩,.string ⟨([79,82,68,69,82]:List UInt8).toArray⟩,.string ⟨([76,73,77,73,84]:List UInt8).toArray⟩,.string ⟨([65,83,67]:List UInt8).toArray⟩,.string ⟨([68,69,83,67]:List UInt8).toArray⟩,.string ⟨([65,83]:List UInt8).toArray⟩,.string ⟨([65,78,68]:List UInt8).toArray⟩,.string ⟨([79,82]:List UInt8).toArray⟩,.string ⟨([78,79,84]:List UInt8).toArray⟩,.string ⟨([73,83]:List UInt8).toArray⟩,.string ⟨([78,85,76,76]:List UInt8).toArray⟩,.string ⟨([84,82,85,69]:List UInt8).toArray⟩,.string ⟨([70,65,76,83,69]:List UInt8).toArray⟩,.string ⟨([67,79,85,78,84]:List UInt8).toArray⟩,.string ⟨([83,85,77]:List UInt8).toArray⟩,.string ⟨([77,73,78]:List UInt8).toArray⟩,.string ⟨([77,65,88]:List UInt8).toArray⟩],rfl,rfl,⟨[.string ⟨([68,73,83,84,73,78,67,84]:List UInt8).toArray⟩],[.string ⟨([70,82,79,77]:List UInt8).toArray⟩,.string ⟨([76,69,70,84]:List UInt8).toArray⟩,.string ⟨([74,79,73,78]:List UInt8).toArray⟩,.string ⟨([79,78]:List UInt8).toArray⟩,.string ⟨([87,72,69,82,69]:List UInt8).toArray⟩,.string ⟨([71,82,79,85,80]:List UInt8).toArray⟩,.string ⟨([66,89]:List UInt8).toArray⟩,.string ⟨([72,65,86,73,78,71]:List UInt8).toArray⟩,.string ⟨([85,78,73,79,78]:List UInt8).toArray⟩,.string ⟨([65,76,76]:List UInt8).toArray⟩,.string ⟨([79,82,68,69,82]:List UInt8).toArray⟩,.string ⟨([76,73,77,73,84]:List UInt8).toArray⟩,.string ⟨([65,83,67]:List UInt8).toArray⟩,.string ⟨([68,69,83,67]:List UInt8).toArray⟩,.string ⟨([65,83]:List UInt8).toArray⟩,.string ⟨([65,78,68]:List UInt8).toArray⟩,.string ⟨([79,82]:List UInt8).toArray⟩,.string ⟨([78,79,84]:List UInt8).toArray⟩,.string ⟨([73,83]:List UInt8).toArray⟩,.string ⟨([78,85,76,76]:List UInt8).toArray⟩,.string ⟨([84,82,85,69]:List UInt8).toArray⟩,.string ⟨([70,65,76,83,69]:List UInt8).toArray⟩,.string ⟨([67,79,85,78,84]:List UInt8).toArray⟩,.string ⟨([83,85,77]:List UInt8).toArray⟩,.string ⟨([77,73,78]:List UInt8).toArray⟩,.string ⟨([77,65,88]:List UInt8).toArray⟩],rfl,rfl,⟨[.string ⟨([70,82,79,77]:List UInt8).toArray⟩],[.string ⟨([76,69,70,84]:List UInt8).toArray⟩,.string ⟨([74,79,73,78]:List UInt8).toArray⟩,.string ⟨([79,78]:List UInt8).toArray⟩,.string ⟨([87,72,69,82,69]:List UInt8).toArray⟩,.string ⟨([71,82,79,85,80]:List UInt8).toArray⟩,.string ⟨([66,89]:List UInt8).toArray⟩,.string ⟨([72,65,86,73,78,71]:List UInt8).toArray⟩,.string ⟨([85,78,73,79,78]:List UInt8).toArray⟩,.string ⟨([65,76,76]:List UInt8).toArray⟩,.string ⟨([79,82,68,69,82]:List UInt8).toArray⟩,.string ⟨([76,73,77,73,84]:List UInt8).toArray⟩,.string ⟨([65,83,67]:List UInt8).toArray⟩,.string ⟨([68,69,83,67]:List UInt8).toArray⟩,.string ⟨([65,83]:List UInt8).toArray⟩,.string ⟨([65,78,68]:List UInt8).toArray⟩,.string ⟨([79,82]:List UInt8).toArray⟩,.string ⟨([78,79,84]:List UInt8).toArray⟩,.string ⟨([73,83]:List UInt8).toArray⟩,.string ⟨([78,85,76,76]:List UInt8).toArray⟩,.string ⟨([84,82,85,69]:List UInt8).toArray⟩,.string ⟨([70,65,76,83,69]:List UInt8).toArray⟩,.string ⟨([67,79,85,78,84]:List UInt8).toArray⟩,.string ⟨([83,85,77]:List UInt8).toArray⟩,.string ⟨([77,73,78]:List UInt8).toArray⟩,.string ⟨([77,65,88]:List UInt8).toArray⟩],rfl,rfl,⟨[.string ⟨([76,69,70,84]:List UInt8).toArray⟩],[.string ⟨([74,79,73,78]:List UInt8).toArray⟩,.string ⟨([79,78]:List UInt8).toArray⟩,.string ⟨([87,72,69,82,69]:List UInt8).toArray⟩,.string ⟨([71,82,79,85,80]:List UInt8).toArray⟩,.string ⟨([66,89]:List UInt8).toArray⟩,.string ⟨([72,65,86,73,78,71]:List UInt8).toArray⟩,.string ⟨([85,78,73,79,78]:List UInt8).toArray⟩,.string ⟨([65,76,76]:List UInt8).toArray⟩,.string ⟨([79,82,68,69,82]:List UInt8).toArray⟩,.string ⟨([76,73,77,73,84]:List UInt8).toArray⟩,.string ⟨([65,83,67]:List UInt8).toArray⟩,.string ⟨([68,69,83,67]:List UInt8).toArray⟩,.string ⟨([65,83]:List UInt8).toArray⟩,.string ⟨([65,78,68]:List UInt8).toArray⟩,.string ⟨([79,82]:List UInt8).toArray⟩,.string ⟨([78,79,84]:List UInt8).toArray⟩,.string ⟨([73,83]:List UInt8).toArray⟩,.string ⟨([78,85,76,76]:List UInt8).toArray⟩,.string ⟨([84,82,85,69]:List UInt8).toArray⟩,.string ⟨([70,65,76,83,69]:List UInt8).toArray⟩,.string ⟨([67,79,85,78,84]:List UInt8).toArray⟩,.string ⟨([83,85,77]:List UInt8).toArray⟩,.string ⟨([77,73,78]:List UInt8).toArray⟩,.string ⟨([77,65,88]:List UInt8).toArray⟩],rfl,rfl,⟨[.string ⟨([74,79,73,78]:List UInt8).toArray⟩],[.string ⟨([79,78]:List UInt8).toArray⟩,.string ⟨([87,72,69,82,69]:List UInt8).toArray⟩,.string ⟨([71,82,79,85,80]:List UInt8).toArray⟩,.string ⟨([66,89]:List UInt8).toArray⟩,.string ⟨([72,65,86,73,78,71]:List UInt8).toArray⟩,.string ⟨([85,78,73,79,78]:List UInt8).toArray⟩,.string ⟨([65,76,76]:List UInt8).toArray⟩,.string ⟨([79,82,68,69,82]:List UInt8).toArray⟩,.string ⟨([76,73,77,73,84]:List UInt8).toArray⟩,.string ⟨([65,83,67]:List UInt8).toArray⟩,.string ⟨([68,69,83,67]:List UInt8).toArray⟩,.string ⟨([65,83]:List UInt8).toArray⟩,.string ⟨([65,78,68]:List UInt8).toArray⟩,.string ⟨([79,82]:List UInt8).toArray⟩,.string ⟨([78,79,84]:List UInt8).toArray⟩,.string ⟨([73,83]:List UInt8).toArray⟩,.string ⟨([78,85,76,76]:List UInt8).toArray⟩,.string ⟨([84,82,85,69]:List UInt8).toArray⟩,.string ⟨([70,65,76,83,69]:List UInt8).toArray⟩,.string ⟨([67,79,85,78,84]:List UInt8).toArray⟩,.string ⟨([83,85,77]:List UInt8).toArray⟩,.string ⟨([77,73,78]:List UInt8).toArray⟩,.string ⟨([77,65,88]:List UInt8).toArray⟩],rfl,rfl,⟨[.string ⟨([79,78]:List UInt8).toArray⟩],[.string ⟨([87,72,69,82,69]:List UInt8).toArray⟩,.string ⟨([71,82,79,85,80]:List UInt8).toArray⟩,.string ⟨([66,89]:List UInt8).toArray⟩,.string ⟨([72,65,86,73,78,71]:List UInt8).toArray⟩,.string ⟨([85,78,73,79,78]:List UInt8).toArray⟩,.string ⟨([65,76,76]:List UInt8).toArray⟩,.string ⟨([79,82,68,69,82]:List UInt8).toArray⟩,.string ⟨([76,73,77,73,84]:List UInt8).toArray⟩,.string ⟨([65,83,67]:List UInt8).toArray⟩,.string ⟨([68,69,83,67]:List UInt8).toArray⟩,.string ⟨([65,83]:List UInt8).toArray⟩,.string ⟨([65,78,68]:List UInt8).toArray⟩,.string ⟨([79,82]:List UInt8).toArray⟩,.string ⟨([78,79,84]:List UInt8).toArray⟩,.string ⟨([73,83]:List UInt8).toArray⟩,.string ⟨([78,85,76,76]:List UInt8).toArray⟩,.string ⟨([84,82,85,69]:List UInt8).toArray⟩,.string ⟨([70,65,76,83,69]:List UInt8).toArray⟩,.string ⟨([67,79,85,78,84]:List UInt8).toArray⟩,.string ⟨([83,85,77]:List UInt8).toArray⟩,.string ⟨([77,73,78]:List UInt8).toArray⟩,.string ⟨([77,65,88]:List UInt8).toArray⟩],rfl,rfl,⟨[.string ⟨([87,72,69,82,69]:List UInt8).toArray⟩],[.string ⟨([71,82,79,85,80]:List UInt8).toArray⟩,.string ⟨([66,89]:List UInt8).toArray⟩,.string ⟨([72,65,86,73,78,71]:List UInt8).toArray⟩,.string ⟨([85,78,73,79,78]:List UInt8).toArray⟩,.string ⟨([65,76,76]:List UInt8).toArray⟩,.string ⟨([79,82,68,69,82]:List UInt8).toArray⟩,.string ⟨([76,73,77,73,84]:List UInt8).toArray⟩,.string ⟨([65,83,67]:List UInt8).toArray⟩,.string ⟨([68,69,83,67]:List UInt8).toArray⟩,.string ⟨([65,83]:List UInt8).toArray⟩,.string ⟨([65,78,68]:List UInt8).toArray⟩,.string ⟨([79,82]:List UInt8).toArray⟩,.string ⟨([78,79,84]:List UInt8).toArray⟩,.string ⟨([73,83]:List UInt8).toArray⟩,.string ⟨([78,85,76,76]:List UInt8).toArray⟩,.string ⟨([84,82,85,69]:List UInt8).toArray⟩,.string ⟨([70,65,76,83,69]:List UInt8).toArray⟩,.string ⟨([67,79,85,78,84]:List UInt8).toArray⟩,.string ⟨([83,85,77]:List UInt8).toArray⟩,.string ⟨([77,73,78]:List UInt8).toArray⟩,.string ⟨([77,65,88]:List UInt8).toArray⟩],rfl,rfl,⟨[.string ⟨([71,82,79,85,80]:List UInt8).toArray⟩],[.string ⟨([66,89]:List UInt8).toArray⟩,.string ⟨([72,65,86,73,78,71]:List UInt8).toArray⟩,.string ⟨([85,78,73,79,78]:List UInt8).toArray⟩,.string ⟨([65,76,76]:List UInt8).toArray⟩,.string ⟨([79,82,68,69,82]:List UInt8).toArray⟩,.string ⟨([76,73,77,73,84]:List UInt8).toArray⟩,.string ⟨([65,83,67]:List UInt8).toArray⟩,.string ⟨([68,69,83,67]:List UInt8).toArray⟩,.string ⟨([65,83]:List UInt8).toArray⟩,.string ⟨([65,78,68]:List UInt8).toArray⟩,.string ⟨([79,82]:List UInt8).toArray⟩,.string ⟨([78,79,84]:List UInt8).toArray⟩,.string ⟨([73,83]:List UInt8).toArray⟩,.string ⟨([78,85,76,76]:List UInt8).toArray⟩,.string ⟨([84,82,85,69]:List UInt8).toArray⟩,.string ⟨([70,65,76,83,69]:List UInt8).toArray⟩,.string ⟨([67,79,85,78,84]:List UInt8).toArray⟩,.string ⟨([83,85,77]:List UInt8).toArray⟩,.string ⟨([77,73,78]:List UInt8).toArray⟩,.string ⟨([77,65,88]:List UInt8).toArray⟩],rfl,rfl,⟨[.string ⟨([66,89]:List UInt8).toArray⟩],[.string ⟨([72,65,86,73,78,71]:List UInt8).toArray⟩,.string ⟨([85,78,73,79,78]:List UInt8).toArray⟩,.string ⟨([65,76,76]:List UInt8).toArray⟩,.string ⟨([79,82,68,69,82]:List UInt8).toArray⟩,.string ⟨([76,73,77,73,84]:List UInt8).toArray⟩,.string ⟨([65,83,67]:List UInt8).toArray⟩,.string ⟨([68,69,83,67]:List UInt8).toArray⟩,.string ⟨([65,83]:List UInt8).toArray⟩,.string ⟨([65,78,68]:List UInt8).toArray⟩,.string ⟨([79,82]:List UInt8).toArray⟩,.string ⟨([78,79,84]:List UInt8).toArray⟩,.string ⟨([73,83]:List UInt8).toArray⟩,.string ⟨([78,85,76,76]:List UInt8).toArray⟩,.string ⟨([84,82,85,69]:List UInt8).toArray⟩,.string ⟨([70,65,76,83,69]:List UInt8).toArray⟩,.string ⟨([67,79,85,78,84]:List UInt8).toArray⟩,.string ⟨([83,85,77]:List UInt8).toArray⟩,.string ⟨([77,73,78]:List UInt8).toArray⟩,.string ⟨([77,65,88]:List UInt8).toArray⟩],rfl,rfl,⟨[.string ⟨([72,65,86,73,78,71]:List UInt8).toArray⟩],[.string ⟨([85,78,73,79,78]:List UInt8).toArray⟩,.string ⟨([65,76,76]:List UInt8).toArray⟩,.string ⟨([79,82,68,69,82]:List UInt8).toArray⟩,.string ⟨([76,73,77,73,84]:List UInt8).toArray⟩,.string ⟨([65,83,67]:List UInt8).toArray⟩,.string ⟨([68,69,83,67]:List UInt8).toArray⟩,.string ⟨([65,83]:List UInt8).toArray⟩,.string ⟨([65,78,68]:List UInt8).toArray⟩,.string ⟨([79,82]:List UInt8).toArray⟩,.string ⟨([78,79,84]:List UInt8).toArray⟩,.string ⟨([73,83]:List UInt8).toArray⟩,.string ⟨([78,85,76,76]:List UInt8).toArray⟩,.string ⟨([84,82,85,69]:List UInt8).toArray⟩,.string ⟨([70,65,76,83,69]:List UInt8).toArray⟩,.string ⟨([67,79,85,78,84]:List UInt8).toArray⟩,.string ⟨([83,85,77]:List UInt8).toArray⟩,.string ⟨([77,73,78]:List UInt8).toArray⟩,.string ⟨([77,65,88]:List UInt8).toArray⟩],rfl,rfl,⟨[.string ⟨([85,78,73,79,78]:List UInt8).toArray⟩],[.string ⟨([65,76,76]:List UInt8).toArray⟩,.string ⟨([79,82,68,69,82]:List UInt8).toArray⟩,.string ⟨([76,73,77,73,84]:List UInt8).toArray⟩,.string ⟨([65,83,67]:List UInt8).toArray⟩,.string ⟨([68,69,83,67]:List UInt8).toArray⟩,.string ⟨([65,83]:List UInt8).toArray⟩,.string ⟨([65,78,68]:List UInt8).toArray⟩,.string ⟨([79,82]:List UInt8).toArray⟩,.string ⟨([78,79,84]:List UInt8).toArray⟩,.string ⟨([73,83]:List UInt8).toArray⟩,.string ⟨([78,85,76,76]:List UInt8).toArray⟩,.string ⟨([84,82,85,69]:List UInt8).toArray⟩,.string ⟨([70,65,76,83,69]:List UInt8).toArray⟩,.string ⟨([67,79,85,78,84]:List UInt8).toArray⟩,.string ⟨([83,85,77]:List UInt8).toArray⟩,.string ⟨([77,73,78]:List UInt8).toArray⟩,.string ⟨([77,65,88]:List UInt8).toArray⟩],rfl,rfl,⟨[.string ⟨([65,76,76]:List UInt8).toArray⟩],[.string ⟨([79,82,68,69,82]:List UInt8).toArray⟩,.string ⟨([76,73,77,73,84]:List UInt8).toArray⟩,.string ⟨([65,83,67]:List UInt8).toArray⟩,.string ⟨([68,69,83,67]:List UInt8).toArray⟩,.string ⟨([65,83]:List UInt8).toArray⟩,.string ⟨([65,78,68]:List UInt8).toArray⟩,.string ⟨([79,82]:List UInt8).toArray⟩,.string ⟨([78,79,84]:List UInt8).toArray⟩,.string ⟨([73,83]:List UInt8).toArray⟩,.string ⟨([78,85,76,76]:List UInt8).toArray⟩,.string ⟨([84,82,85,69]:List UInt8).toArray⟩,.string ⟨([70,65,76,83,69]:List UInt8).toArray⟩,.string ⟨([67,79,85,78,84]:List UInt8).toArray⟩,.string ⟨([83,85,77]:List UInt8).toArray⟩,.string ⟨([77,73,78]:List UInt8).toArray⟩,.string ⟨([77,65,88]:List UInt8).toArray⟩],rfl,rfl,⟨[.string ⟨([79,82,68,69,82]:List UInt8).toArray⟩],[.string ⟨([76,73,77,73,84]:List UInt8).toArray⟩,.string ⟨([65,83,67]:List UInt8).toArray⟩,.string ⟨([68,69,83,67]:List UInt8).toArray⟩,.string ⟨([65,83]:List UInt8).toArray⟩,.string ⟨([65,78,68]:List UInt8).toArray⟩,.string ⟨([79,82]:List UInt8).toArray⟩,.string ⟨([78,79,84]:List UInt8).toArray⟩,.string ⟨([73,83]:List UInt8).toArray⟩,.string ⟨([78,85,76,76]:List UInt8).toArray⟩,.string ⟨([84,82,85,69]:List UInt8).toArray⟩,.string ⟨([70,65,76,83,69]:List UInt8).toArray⟩,.string ⟨([67,79,85,78,84]:List UInt8).toArray⟩,.string ⟨([83,85,77]:List UInt8).toArray⟩,.string ⟨([77,73,78]:List UInt8).toArray⟩,.string ⟨([77,65,88]:List UInt8).toArray⟩],rfl,rfl,⟨[.string ⟨([76,73,77,73,84]:List UInt8).toArray⟩],[.string ⟨([65,83,67]:List UInt8).toArray⟩,.string ⟨([68,69,83,67]:List UInt8).toArray⟩,.string ⟨([65,83]:List UInt8).toArray⟩,.string ⟨([65,78,68]:List UInt8).toArray⟩,.string ⟨([79,82]:List UInt8).toArray⟩,.string ⟨([78,79,84]:List UInt8).toArray⟩,.string ⟨([73,83]:List UInt8).toArray⟩,.string ⟨([78,85,76,76]:List UInt8).toArray⟩,.string ⟨([84,82,85,69]:List UInt8).toArray⟩,.string ⟨([70,65,76,83,69]:List UInt8).toArray⟩,.string ⟨([67,79,85,78,84]:List UInt8).toArray⟩,.string ⟨([83,85,77]:List UInt8).toArray⟩,.string ⟨([77,73,78]:List UInt8).toArray⟩,.string ⟨([77,65,88]:List UInt8).toArray⟩],rfl,rfl,⟨[.string ⟨([65,83,67]:List UInt8).toArray⟩],[.string ⟨([68,69,83,67]:List UInt8).toArray⟩,.string ⟨([65,83]:List UInt8).toArray⟩,.string ⟨([65,78,68]:List UInt8).toArray⟩,.string ⟨([79,82]:List UInt8).toArray⟩,.string ⟨([78,79,84]:List UInt8).toArray⟩,.string ⟨([73,83]:List UInt8).toArray⟩,.string ⟨([78,85,76,76]:List UInt8).toArray⟩,.string ⟨([84,82,85,69]:List UInt8).toArray⟩,.string ⟨([70,65,76,83,69]:List UInt8).toArray⟩,.string ⟨([67,79,85,78,84]:List UInt8).toArray⟩,.string ⟨([83,85,77]:List UInt8).toArray⟩,.string ⟨([77,73,78]:List UInt8).toArray⟩,.string ⟨([77,65,88]:List UInt8).toArray⟩],rfl,rfl,⟨[.string ⟨([68,69,83,67]:List UInt8).toArray⟩],[.string ⟨([65,83]:List UInt8).toArray⟩,.string ⟨([65,78,68]:List UInt8).toArray⟩,.string ⟨([79,82]:List UInt8).toArray⟩,.string ⟨([78,79,84]:List UInt8).toArray⟩,.string ⟨([73,83]:List UInt8).toArray⟩,.string ⟨([78,85,76,76]:List UInt8).toArray⟩,.string ⟨([84,82,85,69]:List UInt8).toArray⟩,.string ⟨([70,65,76,83,69]:List UInt8).toArray⟩,.string ⟨([67,79,85,78,84]:List UInt8).toArray⟩,.string ⟨([83,85,77]:List UInt8).toArray⟩,.string ⟨([77,73,78]:List UInt8).toArray⟩,.string ⟨([77,65,88]:List UInt8).toArray⟩],rfl,rfl,⟨[.string ⟨([65,83]:List UInt8).toArray⟩],[.string ⟨([65,78,68]:List UInt8).toArray⟩,.string ⟨([79,82]:List UInt8).toArray⟩,.string ⟨([78,79,84]:List UInt8).toArray⟩,.string ⟨([73,83]:List UInt8).toArray⟩,.string ⟨([78,85,76,76]:List UInt8).toArray⟩,.string ⟨([84,82,85,69]:List UInt8).toArray⟩,.string ⟨([70,65,76,83,69]:List UInt8).toArray⟩,.string ⟨([67,79,85,78,84]:List UInt8).toArray⟩,.string ⟨([83,85,77]:List UInt8).toArray⟩,.string ⟨([77,73,78]:List UInt8).toArray⟩,.string ⟨([77,65,88]:List UInt8).toArray⟩],rfl,rfl,⟨[.string ⟨([65,78,68]:List UInt8).toArray⟩],[.string ⟨([79,82]:List UInt8).toArray⟩,.string ⟨([78,79,84]:List UInt8).toArray⟩,.string ⟨([73,83]:List UInt8).toArray⟩,.string ⟨([78,85,76,76]:List UInt8).toArray⟩,.string ⟨([84,82,85,69]:List UInt8).toArray⟩,.string ⟨([70,65,76,83,69]:List UInt8).toArray⟩,.string ⟨([67,79,85,78,84]:List UInt8).toArray⟩,.string ⟨([83,85,77]:List UInt8).toArray⟩,.string ⟨([77,73,78]:List UInt8).toArray⟩,.string ⟨([77,65,88]:List UInt8).toArray⟩],rfl,rfl,⟨[.string ⟨([79,82]:List UInt8).toArray⟩],[.string ⟨([78,79,84]:List UInt8).toArray⟩,.string ⟨([73,83]:List UInt8).toArray⟩,.string ⟨([78,85,76,76]:List UInt8).toArray⟩,.string ⟨([84,82,85,69]:List UInt8).toArray⟩,.string ⟨([70,65,76,83,69]:List UInt8).toArray⟩,.string ⟨([67,79,85,78,84]:List UInt8).toArray⟩,.string ⟨([83,85,77]:List UInt8).toArray⟩,.string ⟨([77,73,78]:List UInt8).toArray⟩,.string ⟨([77,65,88]:List UInt8).toArray⟩],rfl,rfl,⟨[.string ⟨([78,79,84]:List UInt8).toArray⟩],[.string ⟨([73,83]:List UInt8).toArray⟩,.string ⟨([78,85,76,76]:List UInt8).toArray⟩,.string ⟨([84,82,85,69]:List UInt8).toArray⟩,.string ⟨([70,65,76,83,69]:List UInt8).toArray⟩,.string ⟨([67,79,85,78,84]:List UInt8).toArray⟩,.string ⟨([83,85,77]:List UInt8).toArray⟩,.string ⟨([77,73,78]:List UInt8).toArray⟩,.string ⟨([77,65,88]:List UInt8).toArray⟩],rfl,rfl,⟨[.string ⟨([73,83]:List UInt8).toArray⟩],[.string ⟨([78,85,76,76]:List UInt8).toArray⟩,.string ⟨([84,82,85,69]:List UInt8).toArray⟩,.string ⟨([70,65,76,83,69]:List UInt8).toArray⟩,.string ⟨([67,79,85,78,84]:List UInt8).toArray⟩,.string ⟨([83,85,77]:List UInt8).toArray⟩,.string ⟨([77,73,78]:List UInt8).toArray⟩,.string ⟨([77,65,88]:List UInt8).toArray⟩],rfl,rfl,⟨[.string ⟨([78,85,76,76]:List UInt8).toArray⟩],[.string ⟨([84,82,85,69]:List UInt8).toArray⟩,.string ⟨([70,65,76,83,69]:List UInt8).toArray⟩,.string ⟨([67,79,85,78,84]:List UInt8).toArray⟩,.string ⟨([83,85,77]:List UInt8).toArray⟩,.string ⟨([77,73,78]:List UInt8).toArray⟩,.string ⟨([77,65,88]:List UInt8).toArray⟩],rfl,rfl,⟨[.string ⟨([84,82,85,69]:List UInt8).toArray⟩],[.string ⟨([70,65,76,83,69]:List UInt8).toArray⟩,.string ⟨([67,79,85,78,84]:List UInt8).toArray⟩,.string ⟨([83,85,77]:List UInt8).toArray⟩,.string ⟨([77,73,78]:List UInt8).toArray⟩,.string ⟨([77,65,88]:List UInt8).toArray⟩],rfl,rfl,⟨[.string ⟨([70,65,76,83,69]:List UInt8).toArray⟩],[.string ⟨([67,79,85,78,84]:List UInt8).toArray⟩,.string ⟨([83,85,77]:List UInt8).toArray⟩,.string ⟨([77,73,78]:List UInt8).toArray⟩,.string ⟨([77,65,88]:List UInt8).toArray⟩],rfl,rfl,⟨[.string ⟨([67,79,85,78,84]:List UInt8).toArray⟩],[.string ⟨([83,85,77]:List UInt8).toArray⟩,.string ⟨([77,73,78]:List UInt8).toArray⟩,.string ⟨([77,65,88]:List UInt8).toArray⟩],rfl,rfl,⟨[.string ⟨([83,85,77]:List UInt8).toArray⟩],[.string ⟨([77,73,78]:List UInt8).toArray⟩,.string ⟨([77,65,88]:List UInt8).toArray⟩],rfl,rfl,⟨[.string ⟨([77,73,78]:List UInt8).toArray⟩],[.string ⟨([77,65,88]:List UInt8).toArray⟩],rfl,rfl,⟨[.string ⟨([77,65,88]:List UInt8).toArray⟩],[],rfl,rfl,(rfl:_=[])⟩⟩⟩⟩⟩⟩⟩⟩⟩⟩⟩⟩⟩⟩⟩⟩⟩⟩⟩⟩⟩⟩⟩⟩⟩⟩⟩⟩⟩

end Go.Proofs.YtnmjbolollcokaaGreatDoor

