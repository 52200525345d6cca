/- cd of this claim: D. -/
import Derived.Test.YtmogpgcfognefaaGreatDoorNcV4
set_option linter.all false
namespace Go.Proofs.YtmogpgcfognefaaGreatDoor
open Go

structure aQ where
 Kind:Int
 N:Int
 U:Int
 S:gQ
 deriving DecidableEq,Inhabited
def bf:Rp aQ:=k7 (da (rI .i64) (da (rI .i64) (da (rI .u64) rS))) (fun x=>(x.Kind,x.N,x.U,x.S))
theorem lA:jl bf 0 (rI .i64) (fun x=>x.Kind):=(cP bS)
theorem tz:ge bf 0 (rI .i64) (fun x y=>{x with Kind:=y}):=ck dp (fun _ _=>rfl)
theorem qF:jl bf 1 (rI .i64) (fun x=>x.N):=(cP (aD bS rfl))
theorem xM:ge bf 1 (rI .i64) (fun x y=>{x with N:=y}):=ck (bG dp rfl) (fun _ _=>rfl)
theorem yA:jl bf 2 (rI .u64) (fun x=>x.U):=(cP (aD (aD bS rfl) rfl))
theorem D5:ge bf 2 (rI .u64) (fun x y=>{x with U:=y}):=ck (bG (bG dp rfl) rfl) (fun _ _=>rfl)
theorem mR:jl bf 3 rS (fun x=>x.S):=(aD (aD (aD bS rfl) rfl) rfl)
theorem xL:ge bf 3 rS (fun x y=>{x with S:=y}):=ck (bG (bG (bG ay rfl) rfl) rfl) (fun _ _=>rfl)
theorem oc: ∀S,bf.rc S [.int .i64 0,.int .i64 0,.int .u64 0,.string ⟨#[]⟩] ((⟨(0:Int),(0:Int),(0:Int),[]⟩:aQ)):=fun _=>⟨[.int .i64 0],[.int .i64 0,.int .u64 0,.string ⟨#[]⟩],rfl,rfl,⟨[.int .i64 0],[.int .u64 0,.string ⟨#[]⟩],rfl,rfl,⟨[.int .u64 0],[.string ⟨#[]⟩],rfl,rfl,rfl⟩⟩⟩
structure bH where
 Tag:Int
 L:Int
 R:Int
 Col:Int
 Value:aQ
 deriving DecidableEq,Inhabited
def bh:Rp bH:=k7 (da (rI .i64) (da (rI .i64) (da (rI .i64) (da (rI .i64) bf)))) (fun x=>(x.Tag,x.L,x.R,x.Col,x.Value))
theorem eE:jl bh 0 (rI .i64) (fun x=>x.Tag):=(cP bS)
theorem qI:jl bh 1 (rI .i64) (fun x=>x.L):=(cP (aD bS rfl))
theorem D9:ge bh 1 (rI .i64) (fun x y=>{x with L:=y}):=ck (bG dp rfl) (fun _ _=>rfl)
theorem qH:jl bh 2 (rI .i64) (fun x=>x.R):=(cP (aD (aD bS rfl) rfl))
theorem D8:ge bh 2 (rI .i64) (fun x y=>{x with R:=y}):=ck (bG (bG dp rfl) rfl) (fun _ _=>rfl)
theorem ic:jl bh 3 (rI .i64) (fun x=>x.Col):=(cP (aD (aD (aD bS rfl) rfl) rfl))
theorem qG:jl bh 4 bf (fun x=>x.Value):=(aD (aD (aD (aD bS rfl) rfl) rfl) rfl)
theorem nh: ∀S,bh.rc S [.int .i64 0,.int .i64 0,.int .i64 0,.int .i64 0,.int .i64 0,.int .i64 0,.int .u64 0,.string ⟨#[]⟩] ((⟨(0:Int),(0:Int),(0:Int),(0:Int),(⟨(0:Int),(0:Int),(0:Int),[]⟩:aQ)⟩:bH)):=fun _=>⟨[.int .i64 0],[.int .i64 0,.int .i64 0,.int .i64 0,.int .i64 0,.int .i64 0,.int .u64 0,.string ⟨#[]⟩],rfl,rfl,⟨[.int .i64 0],[.int .i64 0,.int .i64 0,.int .i64 0,.int .i64 0,.int .u64 0,.string ⟨#[]⟩],rfl,rfl,⟨[.int .i64 0],[.int .i64 0,.int .i64 0,.int .i64 0,.int .u64 0,.string ⟨#[]⟩],rfl,rfl,⟨[.int .i64 0],[.int .i64 0,.int .i64 0,.int .u64 0,.string ⟨#[]⟩],rfl,rfl,oc _⟩⟩⟩⟩
structure bT where
 Nodes:(List bH)
 deriving DecidableEq,Inhabited
def cm:Rp bT:=k7 (dR bh) (fun x=>(x.Nodes))
theorem dj:jl cm 0 (dR bh) (fun x=>x.Nodes):=bS
theorem wQ: ∀S,cm.rc S [.slice none 0 0] ((⟨[]⟩:bT)):=fun _=>⟨none,0,rfl,fO _,jr _,.inl rfl⟩
structure jn where
 Tag:Int
 Arg:bT
 deriving DecidableEq,Inhabited
def fu:Rp jn:=k7 (da (rI .i64) cm) (fun x=>(x.Tag,x.Arg))
theorem jM:jl fu 0 (rI .i64) (fun x=>x.Tag):=(cP bS)
theorem rU:jl fu 1 cm (fun x=>x.Arg):=(aD bS rfl)
theorem vj: ∀S,fu.rc S [.int .i64 0,.slice none 0 0] ((⟨(0:Int),(⟨[]⟩:bT)⟩:jn)):=fun _=>⟨[.int .i64 0],[.slice none 0 0],rfl,rfl,wQ _⟩
structure kj where
 Col:Int
 Desc:Bool
 deriving DecidableEq,Inhabited
def lr:Rp kj:=k7 (da (rI .i64) rB) (fun x=>(x.Col,x.Desc))
theorem yC:jl lr 0 (rI .i64) (fun x=>x.Col):=(cP bS)
theorem IL:jl lr 1 rB (fun x=>x.Desc):=(aD bS rfl)
structure aZ where
 Op:Int
 A:Int
 B:Int
 Table:Int
 Kinds:(List Int)
 Left:Bool
 Cond:bT
 Keys:(List Int)
 Aggs:(List jn)
 Items:(List bT)
 Order:(List kj)
 Limit:Int
 deriving DecidableEq,Inhabited
def aS:Rp aZ:=k7 (da (rI .i64) (da (rI .i64) (da (rI .i64) (da (rI .i64) (da (dR (rI .i64)) (da rB (da cm (da (dR (rI .i64)) (da (dR fu) (da (dR cm) (da (dR lr) (rI .i64)))))))))))) (fun x=>(x.Op,x.A,x.B,x.Table,x.Kinds,x.Left,x.Cond,x.Keys,x.Aggs,x.Items,x.Order,x.Limit))
theorem cT:jl aS 0 (rI .i64) (fun x=>x.Op):=(cP bS)
theorem ot:ge aS 0 (rI .i64) (fun x y=>{x with Op:=y}):=ck dp (fun _ _=>rfl)
theorem ky:jl aS 1 (rI .i64) (fun x=>x.A):=(cP (aD bS rfl))
theorem oq:ge aS 1 (rI .i64) (fun x y=>{x with A:=y}):=ck (bG dp rfl) (fun _ _=>rfl)
theorem mT:jl aS 2 (rI .i64) (fun x=>x.B):=(cP (aD (aD bS rfl) rfl))
theorem oo:ge aS 2 (rI .i64) (fun x y=>{x with B:=y}):=ck (bG (bG dp rfl) rfl) (fun _ _=>rfl)
theorem gC:jl aS 3 (rI .i64) (fun x=>x.Table):=(cP (aD (aD (aD bS rfl) rfl) rfl))
theorem D7:ge aS 3 (rI .i64) (fun x y=>{x with Table:=y}):=ck (bG (bG (bG dp rfl) rfl) rfl) (fun _ _=>rfl)
theorem ib:jl aS 4 (dR (rI .i64)) (fun x=>x.Kinds):=(cP (aD (aD (aD (aD bS rfl) rfl) rfl) rfl))
theorem qp:ge aS 4 (dR (rI .i64)) (fun x y=>{x with Kinds:=y}):=ck (bG (bG (bG (bG dp rfl) rfl) rfl) rfl) (fun _ _=>rfl)
theorem EC:jl aS 5 rB (fun x=>x.Left):=(cP (aD (aD (aD (aD (aD bS rfl) rfl) rfl) rfl) rfl))
theorem oI:jl aS 6 cm (fun x=>x.Cond):=(cP (aD (aD (aD (aD (aD (aD bS rfl) rfl) rfl) rfl) rfl) rfl))
theorem fv:jl aS 7 (dR (rI .i64)) (fun x=>x.Keys):=(cP (aD (aD (aD (aD (aD (aD (aD bS rfl) rfl) rfl) rfl) rfl) rfl) rfl))
theorem fU:jl aS 8 (dR fu) (fun x=>x.Aggs):=(cP (aD (aD (aD (aD (aD (aD (aD (aD bS rfl) rfl) rfl) rfl) rfl) rfl) rfl) rfl))
theorem tJ:jl aS 9 (dR cm) (fun x=>x.Items):=(cP (aD (aD (aD (aD (aD (aD (aD (aD (aD bS rfl) rfl) rfl) rfl) rfl) rfl) rfl) rfl) rfl))
theorem nv:jl aS 10 (dR lr) (fun x=>x.Order):=(cP (aD (aD (aD (aD (aD (aD (aD (aD (aD (aD bS rfl) rfl) rfl) rfl) rfl) rfl) rfl) rfl) rfl) rfl))
theorem nu:jl aS 11 (rI .i64) (fun x=>x.Limit):=(aD (aD (aD (aD (aD (aD (aD (aD (aD (aD (aD bS rfl) rfl) rfl) rfl) rfl) rfl) rfl) rfl) rfl) rfl) rfl)
theorem eK: ∀S,aS.rc S [.int .i64 0,.int .i64 0,.int .i64 0,.int .i64 0,.slice none 0 0,.bool false,.slice none 0 0,.slice none 0 0,.slice none 0 0,.slice none 0 0,.slice none 0 0,.int .i64 0] ((⟨(0:Int),(0:Int),(0:Int),(0:Int),[],false,(⟨[]⟩:bT),[],[],[],[],(0:Int)⟩:aZ)):=fun _=>⟨[.int .i64 0],[.int .i64 0,.int .i64 0,.int .i64 0,.slice none 0 0,.bool false,.slice none 0 0,.slice none 0 0,.slice none 0 0,.slice none 0 0,.slice none 0 0,.int .i64 0],rfl,rfl,⟨[.int .i64 0],[.int .i64 0,.int .i64 0,.slice none 0 0,.bool false,.slice none 0 0,.slice none 0 0,.slice none 0 0,.slice none 0 0,.slice none 0 0,.int .i64 0],rfl,rfl,⟨[.int .i64 0],[.int .i64 0,.slice none 0 0,.bool false,.slice none 0 0,.slice none 0 0,.slice none 0 0,.slice none 0 0,.slice none 0 0,.int .i64 0],rfl,rfl,⟨[.int .i64 0],[.slice none 0 0,.bool false,.slice none 0 0,.slice none 0 0,.slice none 0 0,.slice none 0 0,.slice none 0 0,.int .i64 0],rfl,rfl,⟨[.slice none 0 0],[.bool false,.slice none 0 0,.slice none 0 0,.slice none 0 0,.slice none 0 0,.slice none 0 0,.int .i64 0],rfl,⟨none,0,rfl,fO _,jr _,.inl rfl⟩,⟨[.bool false],[.slice none 0 0,.slice none 0 0,.slice none 0 0,.slice none 0 0,.slice none 0 0,.int .i64 0],rfl,rfl,⟨[.slice none 0 0],[.slice none 0 0,.slice none 0 0,.slice none 0 0,.slice none 0 0,.int .i64 0],rfl,wQ _,⟨[.slice none 0 0],[.slice none 0 0,.slice none 0 0,.slice none 0 0,.int .i64 0],rfl,⟨none,0,rfl,fO _,jr _,.inl rfl⟩,⟨[.slice none 0 0],[.slice none 0 0,.slice none 0 0,.int .i64 0],rfl,⟨none,0,rfl,fO _,jr _,.inl rfl⟩,⟨[.slice none 0 0],[.slice none 0 0,.int .i64 0],rfl,⟨none,0,rfl,fO _,jr _,.inl rfl⟩,⟨[.slice none 0 0],[.int .i64 0],rfl,⟨none,0,rfl,fO _,jr _,.inl rfl⟩,rfl⟩⟩⟩⟩⟩⟩⟩⟩⟩⟩⟩
structure af where
 nodes:(List aZ)
 kinds:(List (List Int))
 open_:(List Int)
 n:aZ
 a_:(List Int)
 b:(List Int)
 result:(List Int)
 deriving DecidableEq,Inhabited
def aN:Rp af:=k7 (da (dR aS) (da (dR (dR (rI .i64))) (da (JY:Rp (List Int)) (da aS (da (dR (rI .i64)) (da (dR (rI .i64)) (dR (rI .i64)))))))) (fun x=>(x.nodes,x.kinds,x.open_,x.n,x.a_,x.b,x.result))
theorem vE:jl aN 0 (dR aS) (fun x=>x.nodes):=(cP bS)
theorem GQ:ge aN 0 (dR aS) (fun x y=>{x with nodes:=y}):=ck dp (fun _ _=>rfl)
theorem GP:ge aN 1 (dR (dR (rI .i64))) (fun x y=>{x with kinds:=y}):=ck (bG dp rfl) (fun _ _=>rfl)
theorem GO:ge aN 2 (JY:Rp (List Int)) (fun x y=>{x with open_:=y}):=ck (bG (bG dp rfl) rfl) (fun _ _=>rfl)
theorem dL:jl aN 3 aS (fun x=>x.n):=(cP (aD (aD (aD bS rfl) rfl) rfl))
theorem GN:ge aN 3 aS (fun x y=>{x with n:=y}):=ck (bG (bG (bG dp rfl) rfl) rfl) (fun _ _=>rfl)
theorem kN:jl aN 15 (dR (rI .i64)) (fun x=>x.a_):=(cP (aD (aD (aD (aD bS rfl) rfl) rfl) rfl))
theorem Ad:ge aN 15 (dR (rI .i64)) (fun x y=>{x with a_:=y}):=ck (bG (bG (bG (bG dp rfl) rfl) rfl) rfl) (fun _ _=>rfl)
theorem AA:jl aN 16 (dR (rI .i64)) (fun x=>x.b):=(cP (aD (aD (aD (aD (aD bS rfl) rfl) rfl) rfl) rfl))
theorem Ac:ge aN 16 (dR (rI .i64)) (fun x y=>{x with b:=y}):=ck (bG (bG (bG (bG (bG dp rfl) rfl) rfl) rfl) rfl) (fun _ _=>rfl)
theorem vD:jl aN 17 (dR (rI .i64)) (fun x=>x.result):=(aD (aD (aD (aD (aD (aD bS rfl) rfl) rfl) rfl) rfl) rfl)
theorem nY:ge aN 17 (dR (rI .i64)) (fun x y=>{x with result:=y}):=ck (bG (bG (bG (bG (bG (bG ay rfl) rfl) rfl) rfl) rfl) rfl) (fun _ _=>rfl)
theorem JC: ∀S,aN.rc S [.slice none 0 0,.slice none 0 0,.slice none 0 0,.int .i64 0,.int .i64 0,.int .i64 0,.int .i64 0,.slice none 0 0,.bool false,.slice none 0 0,.slice none 0 0,.slice none 0 0,.slice none 0 0,.slice none 0 0,.int .i64 0,.slice none 0 0,.slice none 0 0,.slice none 0 0] ((⟨[],[],[],(⟨(0:Int),(0:Int),(0:Int),(0:Int),[],false,(⟨[]⟩:bT),[],[],[],[],(0:Int)⟩:aZ),[],[],[]⟩:af)):=fun _=>⟨[.slice none 0 0],[.slice none 0 0,.slice none 0 0,.int .i64 0,.int .i64 0,.int .i64 0,.int .i64 0,.slice none 0 0,.bool false,.slice none 0 0,.slice none 0 0,.slice none 0 0,.slice none 0 0,.slice none 0 0,.int .i64 0,.slice none 0 0,.slice none 0 0,.slice none 0 0],rfl,⟨none,0,rfl,fO _,jr _,.inl rfl⟩,⟨[.slice none 0 0],[.slice none 0 0,.int .i64 0,.int .i64 0,.int .i64 0,.int .i64 0,.slice none 0 0,.bool false,.slice none 0 0,.slice none 0 0,.slice none 0 0,.slice none 0 0,.slice none 0 0,.int .i64 0,.slice none 0 0,.slice none 0 0,.slice none 0 0],rfl,⟨none,0,rfl,fO _,jr _,.inl rfl⟩,⟨[.slice none 0 0],[.int .i64 0,.int .i64 0,.int .i64 0,.int .i64 0,.slice none 0 0,.bool false,.slice none 0 0,.slice none 0 0,.slice none 0 0,.slice none 0 0,.slice none 0 0,.int .i64 0,.slice none 0 0,.slice none 0 0,.slice none 0 0],rfl,⟨_,rfl,rfl⟩,⟨[.int .i64 0,.int .i64 0,.int .i64 0,.int .i64 0,.slice none 0 0,.bool false,.slice none 0 0,.slice none 0 0,.slice none 0 0,.slice none 0 0,.slice none 0 0,.int .i64 0],[.slice none 0 0,.slice none 0 0,.slice none 0 0],rfl,eK _,⟨[.slice none 0 0],[.slice none 0 0,.slice none 0 0],rfl,⟨none,0,rfl,fO _,jr _,.inl rfl⟩,⟨[.slice none 0 0],[.slice none 0 0],rfl,⟨none,0,rfl,fO _,jr _,.inl rfl⟩,⟨none,0,rfl,fO _,jr _,.inl rfl⟩⟩⟩⟩⟩⟩⟩
structure aU where
 Name:gQ
 Kind:Int
 deriving DecidableEq,Inhabited
def bO:Rp aU:=k7 (da rS (rI .i64)) (fun x=>(x.Name,x.Kind))
theorem C9:jl bO 0 rS (fun x=>x.Name):=(cP bS)
theorem v8:ge bO 0 rS (fun x y=>{x with Name:=y}):=ck dp (fun _ _=>rfl)
theorem pe:jl bO 1 (rI .i64) (fun x=>x.Kind):=(aD bS rfl)
theorem v7:ge bO 1 (rI .i64) (fun x y=>{x with Kind:=y}):=ck (bG ay rfl) (fun _ _=>rfl)
theorem mE: ∀S,bO.rc S [.string ⟨#[]⟩,.int .i64 0] ((⟨[],(0:Int)⟩:aU)):=fun _=>⟨[.string ⟨#[]⟩],[.int .i64 0],rfl,rfl,rfl⟩
structure ze where
 word:gQ
 kind:Int
 deriving DecidableEq,Inhabited
def qq:Rp ze:=k7 (da rS (rI .i64)) (fun x=>(x.word,x.kind))
theorem Hl:jl qq 0 rS (fun x=>x.word):=(cP bS)
theorem Hk:jl qq 1 (rI .i64) (fun x=>x.kind):=(aD bS rfl)
theorem JD: ∀S,qq.rc S [.string ⟨#[]⟩,.int .i64 0] ((⟨[],(0:Int)⟩:ze)):=fun _=>⟨[.string ⟨#[]⟩],[.int .i64 0],rfl,rfl,rfl⟩
structure bj where
 Name:gQ
 Columns:(List aU)
 Keys:(List Int)
 deriving DecidableEq,Inhabited
def bU:Rp bj:=k7 (da rS (da (dR bO) (dR (rI .i64)))) (fun x=>(x.Name,x.Columns,x.Keys))
theorem yB:jl bU 0 rS (fun x=>x.Name):=(cP bS)
theorem D6:ge bU 0 rS (fun x y=>{x with Name:=y}):=ck dp (fun _ _=>rfl)
theorem jz:jl bU 1 (dR bO) (fun x=>x.Columns):=(cP (aD bS rfl))
theorem xO:ge bU 1 (dR bO) (fun x y=>{x with Columns:=y}):=ck (bG dp rfl) (fun _ _=>rfl)
theorem mS:jl bU 2 (dR (rI .i64)) (fun x=>x.Keys):=(aD (aD bS rfl) rfl)
theorem xN:ge bU 2 (dR (rI .i64)) (fun x y=>{x with Keys:=y}):=ck (bG (bG ay rfl) rfl) (fun _ _=>rfl)
theorem uc: ∀S,bU.rc S [.string ⟨#[]⟩,.slice none 0 0,.slice none 0 0] ((⟨[],[],[]⟩:bj)):=fun _=>⟨[.string ⟨#[]⟩],[.slice none 0 0,.slice none 0 0],rfl,rfl,⟨[.slice none 0 0],[.slice none 0 0],rfl,⟨none,0,rfl,fO _,jr _,.inl rfl⟩,⟨none,0,rfl,fO _,jr _,.inl rfl⟩⟩⟩
structure aT where
 Tables:(List bj)
 deriving DecidableEq,Inhabited
def bP:Rp aT:=k7 (dR bU) (fun x=>(x.Tables))
theorem dH:jl bP 0 (dR bU) (fun x=>x.Tables):=bS
theorem uh:ge bP 0 (dR bU) (fun x y=>{x with Tables:=y}):=ck ay (fun _ _=>rfl)
theorem jt: ∀S,bP.rc S [.slice none 0 0] ((⟨[]⟩:aT)):=fun _=>⟨none,0,rfl,fO _,jr _,.inl rfl⟩
structure dc where
 Nodes:(List aZ)
 At:Int
 Way:Int
 Cols:(List Int)
 deriving DecidableEq,Inhabited
def cr:Rp dc:=k7 (da (dR aS) (da (rI .i64) (da (rI .i64) (dR (rI .i64))))) (fun x=>(x.Nodes,x.At,x.Way,x.Cols))
theorem kO:jl cr 0 (dR aS) (fun x=>x.Nodes):=(cP bS)
theorem sm:ge cr 0 (dR aS) (fun x y=>{x with Nodes:=y}):=ck dp (fun _ _=>rfl)
theorem mU:jl cr 1 (rI .i64) (fun x=>x.At):=(cP (aD bS rfl))
theorem sl:ge cr 1 (rI .i64) (fun x y=>{x with At:=y}):=ck (bG dp rfl) (fun _ _=>rfl)
theorem lN:jl cr 2 (rI .i64) (fun x=>x.Way):=(cP (aD (aD bS rfl) rfl))
theorem sk:ge cr 2 (rI .i64) (fun x y=>{x with Way:=y}):=ck (bG (bG dp rfl) rfl) (fun _ _=>rfl)
theorem sF:jl cr 3 (dR (rI .i64)) (fun x=>x.Cols):=(aD (aD (aD bS rfl) rfl) rfl)
theorem lU: ∀S,cr.rc S [.slice none 0 0,.int .i64 0,.int .i64 0,.slice none 0 0] ((⟨[],(0:Int),(0:Int),[]⟩:dc)):=fun _=>⟨[.slice none 0 0],[.int .i64 0,.int .i64 0,.slice none 0 0],rfl,⟨none,0,rfl,fO _,jr _,.inl rfl⟩,⟨[.int .i64 0],[.int .i64 0,.slice none 0 0],rfl,rfl,⟨[.int .i64 0],[.slice none 0 0],rfl,rfl,⟨none,0,rfl,fO _,jr _,.inl rfl⟩⟩⟩⟩
structure eC where
 Frags:(List dc)
 deriving DecidableEq,Inhabited
def df:Rp eC:=k7 (dR cr) (fun x=>(x.Frags))
theorem fT:jl df 0 (dR cr) (fun x=>x.Frags):=bS
theorem Ae:ge df 0 (dR cr) (fun x y=>{x with Frags:=y}):=ck ay (fun _ _=>rfl)
theorem qi: ∀S,df.rc S [.slice none 0 0] ((⟨[]⟩:eC)):=fun _=>⟨none,0,rfl,fO _,jr _,.inl rfl⟩
structure bN where
 Plan:eC
 c:aT
 kinds:(List (List (List Int)))
 deriving DecidableEq,Inhabited
def eW:Rp bN:=k7 (da df (da bP (dR (dR (dR (rI .i64)))))) (fun x=>(x.Plan,x.c,x.kinds))
theorem gb:jl eW 0 df (fun x=>x.Plan):=(cP bS)
theorem qE:jl eW 1 bP (fun x=>x.c):=(cP (aD bS rfl))
theorem uK:jl eW 2 (dR (dR (dR (rI .i64)))) (fun x=>x.kinds):=(aD (aD bS rfl) rfl)
structure bB where
 Kind:Int
 Cols:(List Int)
 deriving DecidableEq,Inhabited
def bJ:Rp bB:=k7 (da (rI .i64) (dR (rI .i64))) (fun x=>(x.Kind,x.Cols))
theorem fa:jl bJ 0 (rI .i64) (fun x=>x.Kind):=(cP bS)
theorem lG:ge bJ 0 (rI .i64) (fun x y=>{x with Kind:=y}):=ck dp (fun _ _=>rfl)
theorem ja:jl bJ 1 (dR (rI .i64)) (fun x=>x.Cols):=(aD bS rfl)
theorem vq:ge bJ 1 (dR (rI .i64)) (fun x y=>{x with Cols:=y}):=ck (bG ay rfl) (fun _ _=>rfl)
theorem gK: ∀S,bJ.rc S [.int .i64 0,.slice none 0 0] ((⟨(0:Int),[]⟩:bB)):=fun _=>⟨[.int .i64 0],[.slice none 0 0],rfl,rfl,⟨none,0,rfl,fO _,jr _,.inl rfl⟩⟩
structure cq where
 checker:(Option bN)
 n:aZ
 a_:bB
 b:bB
 deriving DecidableEq,Inhabited
def iP:Rp cq:=k7 (da (HN eW) (da aS (da bJ bJ))) (fun x=>(x.checker,x.n,x.a_,x.b))
theorem Az:jl iP 0 (HN eW) (fun x=>x.checker):=(cP bS)
theorem GM:ge iP 0 (HN eW) (fun x y=>{x with checker:=y}):=ck dp (fun _ _=>rfl)
theorem sE:jl iP 1 aS (fun x=>x.n):=(cP (aD bS rfl))
theorem GL:ge iP 1 aS (fun x y=>{x with n:=y}):=ck (bG dp rfl) (fun _ _=>rfl)
theorem n7:jl iP 13 bJ (fun x=>x.a_):=(cP (aD (aD bS rfl) rfl))
theorem GK:ge iP 13 bJ (fun x y=>{x with a_:=y}):=ck (bG (bG dp rfl) rfl) (fun _ _=>rfl)
theorem Ay:jl iP 15 bJ (fun x=>x.b):=(aD (aD (aD bS rfl) rfl) rfl)
theorem GJ:ge iP 15 bJ (fun x y=>{x with b:=y}):=ck (bG (bG (bG ay rfl) rfl) rfl) (fun _ _=>rfl)
theorem JB: ∀S,iP.rc S [.pointer none,.int .i64 0,.int .i64 0,.int .i64 0,.int .i64 0,.slice none 0 0,.bool false,.slice none 0 0,.slice none 0 0,.slice none 0 0,.slice none 0 0,.slice none 0 0,.int .i64 0,.int .i64 0,.slice none 0 0,.int .i64 0,.slice none 0 0] ((⟨none,(⟨(0:Int),(0:Int),(0:Int),(0:Int),[],false,(⟨[]⟩:bT),[],[],[],[],(0:Int)⟩:aZ),(⟨(0:Int),[]⟩:bB),(⟨(0:Int),[]⟩:bB)⟩:cq)):=fun _=>⟨[.pointer none],[.int .i64 0,.int .i64 0,.int .i64 0,.int .i64 0,.slice none 0 0,.bool false,.slice none 0 0,.slice none 0 0,.slice none 0 0,.slice none 0 0,.slice none 0 0,.int .i64 0,.int .i64 0,.slice none 0 0,.int .i64 0,.slice none 0 0],rfl,⟨_,rfl,rfl⟩,⟨[.int .i64 0,.int .i64 0,.int .i64 0,.int .i64 0,.slice none 0 0,.bool false,.slice none 0 0,.slice none 0 0,.slice none 0 0,.slice none 0 0,.slice none 0 0,.int .i64 0],[.int .i64 0,.slice none 0 0,.int .i64 0,.slice none 0 0],rfl,eK _,⟨[.int .i64 0,.slice none 0 0],[.int .i64 0,.slice none 0 0],rfl,gK _,gK _⟩⟩⟩
structure Sw where
 Nodes:(List aZ)
 deriving DecidableEq,Inhabited
structure pq where
 Tables:(List (List (List aQ)))
 deriving DecidableEq,Inhabited
def sn:Rp pq:=k7 (dR (dR (dR bf))) (fun x=>(x.Tables))
theorem AB:jl sn 0 (dR (dR (dR bf))) (fun x=>x.Tables):=bS
theorem GR:ge sn 0 (dR (dR (dR bf))) (fun x y=>{x with Tables:=y}):=ck ay (fun _ _=>rfl)
theorem JE: ∀S,sn.rc S [.slice none 0 0] ((⟨[]⟩:pq)):=fun _=>⟨none,0,rfl,fO _,jr _,.inl rfl⟩
structure y8 where
 Tables:Value
def ft:Rp y8:=k7 rV (fun x=>(x.Tables))
theorem mf:jl ft 0 rV (fun x=>x.Tables):=bS
theorem xK:ge ft 0 rV (fun x y=>{x with Tables:=y}):=ck ay (fun _ _=>rfl)
def ga(y:aT)(v0:Value):y8:=⟨v0⟩
theorem ub: ∀S,ft.rc S [.slice none 0 0] (ga ((⟨[]⟩:aT)) (an none 0 0)):=fun _=>⟨rfl,rfl⟩
structure Ri where
 Frags:Value
structure Ga where
 Nodes:Value
def kI:Rp Ga:=k7 rV (fun x=>(x.Nodes))
theorem wi:jl kI 0 rV (fun x=>x.Nodes):=bS
theorem Cw:ge kI 0 rV (fun x y=>{x with Nodes:=y}):=ck ay (fun _ _=>rfl)
def lK(y:bT)(v0:Value):Ga:=⟨v0⟩
theorem zY: ∀S,kI.rc S [.slice none 0 0] (lK ((⟨[]⟩:bT)) (an none 0 0)):=fun _=>⟨rfl,rfl⟩
structure Q6 where
 Op:Int
 A:Int
 B:Int
 Table:Int
 Kinds:(List Int)
 Left:Bool
 Cond:bT
 Keys:(List Int)
 Aggs:Value
 Items:(List bT)
 Order:(List kj)
 Limit:Int
structure N9 where
 Op:Int
 A:Int
 B:Int
 Table:Int
 Kinds:(List Int)
 Left:Bool
 Cond:bT
 Keys:(List Int)
 Aggs:Value
 Items:Value
 Order:(List kj)
 Limit:Int
structure Q5 where
 Op:Int
 A:Int
 B:Int
 Table:Int
 Kinds:(List Int)
 Left:Bool
 Cond:bT
 Keys:(List Int)
 Aggs:(List jn)
 Items:Value
 Order:(List kj)
 Limit:Int
structure Rh where
 Kind:Int
 Cols:Value
structure F9 where
 nodes:(List aZ)
 kinds:(List (List Int))
 open_:(List Int)
 n:aZ
 a_:(List Int)
 b:(List Int)
 result:Value
def bl:Rp F9:=k7 (da (dR aS) (da (dR (dR (rI .i64))) (da (JY:Rp (List Int)) (da aS (da (dR (rI .i64)) (da (dR (rI .i64)) rV)))))) (fun x=>(x.nodes,x.kinds,x.open_,x.n,x.a_,x.b,x.result))
theorem rR:jl bl 3 aS (fun x=>x.n):=(cP (aD (aD (aD bS rfl) rfl) rfl))
theorem gP:jl bl 15 (dR (rI .i64)) (fun x=>x.a_):=(cP (aD (aD (aD (aD bS rfl) rfl) rfl) rfl))
theorem C8:jl bl 16 (dR (rI .i64)) (fun x=>x.b):=(cP (aD (aD (aD (aD (aD bS rfl) rfl) rfl) rfl) rfl))
theorem iD:jl bl 17 rV (fun x=>x.result):=(aD (aD (aD (aD (aD (aD bS rfl) rfl) rfl) rfl) rfl) rfl)
def bq(y:af)(v6:Value):F9:=⟨y.nodes,y.kinds,y.open_,y.n,y.a_,y.b,v6⟩
structure y7 where
 Plan:eC
 c:aT
 kinds:Value
def fq:Rp y7:=k7 (da df (da bP rV)) (fun x=>(x.Plan,x.c,x.kinds))
theorem xJ:ge fq 0 df (fun x y=>{x with Plan:=y}):=ck dp (fun _ _=>rfl)
theorem xI:ge fq 1 bP (fun x y=>{x with c:=y}):=ck (bG dp rfl) (fun _ _=>rfl)
theorem yz:jl fq 2 rV (fun x=>x.kinds):=(aD (aD bS rfl) rfl)
def gM(y:bN)(v2:Value):y7:=⟨y.Plan,y.c,v2⟩
theorem A5: ∀S,fq.rc S [.slice none 0 0,.slice none 0 0,.slice none 0 0] (gM ((⟨(⟨[]⟩:eC),(⟨[]⟩:aT),[]⟩:bN)) (an none 0 0)):=fun _=>⟨[.slice none 0 0],[.slice none 0 0,.slice none 0 0],rfl,qi _,⟨[.slice none 0 0],[.slice none 0 0],rfl,jt _,⟨rfl,rfl⟩⟩⟩
structure QZ where
 Nodes:Value
theorem uU{S:SH}{cs:List Value}{y:aT}{v0:Value}{xs0:(List bj)}(k0:(dR bU).rc S [v0] xs0)(h:ft.rc S cs (ga y v0)):bP.rc S cs ((⟨xs0⟩:aT)):=by
 have h0:=h
 exact(by rw [h0.1];exact k0)
theorem yU{S:SH}{cs:List Value}{y:bT}{v0:Value}{xs0:(List bH)}(k0:(dR bh).rc S [v0] xs0)(h:kI.rc S cs (lK y v0)):cm.rc S cs ((⟨xs0⟩:bT)):=by
 have h0:=h
 exact(by rw [h0.1];exact k0)
theorem fx{S:SH}{cs:List Value}{y:af}{v6:Value}{xs6:(List Int)}(k6:(dR (rI .i64)).rc S [v6] xs6)(h:bl.rc S cs (bq y v6)):aN.rc S cs ((⟨y.nodes,y.kinds,y.open_,y.n,y.a_,y.b,xs6⟩:af)):=by
 obtain⟨a0,b0,e0,h0,a1,b1,e1,h1,a2,b2,e2,h2,a3,b3,e3,h3,a4,b4,e4,h4,a5,b5,e5,h5,h6⟩:=h
 exact⟨a0,b0,e0,h0,a1,b1,e1,h1,a2,b2,e2,h2,a3,b3,e3,h3,a4,b4,e4,h4,a5,b5,e5,h5,(by rw [h6.1];exact k6)⟩
theorem ml{S:SH}{cs:List Value}{y:bN}{v2:Value}{xs2:(List (List (List Int)))}(k2:(dR (dR (dR (rI .i64)))).rc S [v2] xs2)(h:fq.rc S cs (gM y v2)):eW.rc S cs ((⟨y.Plan,y.c,xs2⟩:bN)):=by
 obtain⟨a0,b0,e0,h0,a1,b1,e1,h1,h2⟩:=h
 exact⟨a0,b0,e0,h0,a1,b1,e1,h1,(by rw [h2.1];exact k2)⟩
theorem iw(y:af)(v:Value):pm aN bl 17 rV (y) v (bq y v):=Bg (j9 (j9 (j9 (j9 (j9 (j9 (pO rfl) rfl) rfl) rfl) rfl) rfl) rfl) rfl
theorem fB(y:af)(u:Value)(v:Value):pm bl bl 17 rV (bq y u) v (bq y v):=Bg (j9 (j9 (j9 (j9 (j9 (j9 (pO rfl) rfl) rfl) rfl) rfl) rfl) rfl) rfl
theorem qm(y:bN)(u:Value)(v:Value):pm fq fq 2 rV (gM y u) v (gM y v):=Bg (j9 (j9 (pO rfl) rfl) rfl) rfl
def dl(b:Nat)(x:af)(i:OI):List OE:=[bx (rH aN [(1,an (i.h 0).1 (i.h 0).2 x.kinds.length),(2,an (i.h 1).1 (i.h 1).2 x.open_.length)]) 124 b x,fA (dR (rI .i64)) 29 (i.h 0).1 (i.h 0).2 x.kinds,cC (rI .i64) 3 (i.h 1).1 (i.h 1).2 x.open_]
def M9(b:Nat)(x:af)(i:OI):List OE:=[bx (rH bl [(1,an (i.h 0).1 (i.h 0).2 x.kinds.length),(2,an (i.h 1).1 (i.h 1).2 x.open_.length)]) 124 b (bq x (an (i.h 2).1 (i.h 2).2 x.result.length)),fA (dR (rI .i64)) 29 (i.h 0).1 (i.h 0).2 x.kinds,cC (rI .i64) 3 (i.h 1).1 (i.h 1).2 x.open_,cC (rI .i64) 3 (i.h 2).1 (i.h 2).2 x.result]
def Nk:(List ze):=[(⟨[98,111,111,108],(1:Int)⟩:ze),(⟨[105,110,116],(2:Int)⟩:ze),(⟨[116,101,120,116],(3:Int)⟩:ze)]
theorem gm0:((0:Nat),([.string ⟨([98,111,111,108]:List UInt8).toArray⟩,.int .i64 (1),.string ⟨([105,110,116]:List UInt8).toArray⟩,.int .i64 (2),.string ⟨([116,101,120,116]:List UInt8).toArray⟩,.int .i64 (3)]:List Value))∈glob:=by simp [glob]
theorem gr0: ∀S,(jm qq 3).rc S ([.string ⟨([98,111,111,108]:List UInt8).toArray⟩,.int .i64 (1),.string ⟨([105,110,116]:List UInt8).toArray⟩,.int .i64 (2),.string ⟨([116,101,120,116]:List UInt8).toArray⟩,.int .i64 (3)]:List Value) Nk:=fun _=>⟨rfl,⟨[.string ⟨([98,111,111,108]:List UInt8).toArray⟩,.int .i64 (1)],[.string ⟨([105,110,116]:List UInt8).toArray⟩,.int .i64 (2),.string ⟨([116,101,120,116]:List UInt8).toArray⟩,.int .i64 (3)],rfl,⟨[.string ⟨([98,111,111,108]:List UInt8).toArray⟩],[.int .i64 (1)],rfl,rfl,rfl⟩,⟨[.string ⟨([105,110,116]:List UInt8).toArray⟩,.int .i64 (2)],[.string ⟨([116,101,120,116]:List UInt8).toArray⟩,.int .i64 (3)],rfl,⟨[.string ⟨([105,110,116]:List UInt8).toArray⟩],[.int .i64 (2)],rfl,rfl,rfl⟩,⟨[.string ⟨([116,101,120,116]:List UInt8).toArray⟩,.int .i64 (3)],[],rfl,⟨[.string ⟨([116,101,120,116]:List UInt8).toArray⟩],[.int .i64 (3)],rfl,rfl,rfl⟩,(rfl:_=[])⟩⟩⟩⟩
def O7:(List gQ):=[[83,69,76,69,67,84],[68,73,83,84,73,78,67,84],[70,82,79,77],[76,69,70,84],[74,79,73,78],[79,78],[87,72,69,82,69],[71,82,79,85,80],[66,89],[72,65,86,73,78,71],[85,78,73,79,78],[65,76,76],[79,82,68,69,82],[76,73,77,73,84],[65,83,67],[68,69,83,67],[65,83],[65,78,68],[79,82],[78,79,84],[73,83],[78,85,76,76],[84,82,85,69],[70,65,76,83,69],[67,79,85,78,84],[83,85,77],[77,73,78],[77,65,88]]
theorem gm2:((2:Nat),([.string ⟨([83,69,76,69,67,84]:List UInt8).toArray⟩,.string ⟨([68,73,83,84,73,78,67,84]:List UInt8).toArray⟩,.string ⟨([70,82,79,77]:List UInt8).toArray⟩,.string ⟨([76,69,70,84]:List UInt8).toArray⟩,.string ⟨([74,79,73,78]:List UInt8).toArray⟩,.string ⟨([79,78]:List UInt8).toArray⟩,.string ⟨([87,72,69,82,69]:List UInt8).toArray⟩,.string ⟨([71,82,79,85,80]:List UInt8).toArray⟩,.string ⟨([66,89]:List UInt8).toArray⟩,.string ⟨([72,65,86,73,78,71]:List UInt8).toArray⟩,.string ⟨([85,78,73,79,78]:List UInt8).toArray⟩,.string ⟨([65,76,76]:List UInt8).toArray⟩,.string ⟨([79,82,68,69,82]:List UInt8).toArray⟩,.string ⟨([76,73,77,73,84]:List UInt8).toArray⟩,.string ⟨([65,83,67]:List UInt8).toArray⟩,.string ⟨([68,69,83,67]:List UInt8).toArray⟩,.string ⟨([65,83]:List UInt8).toArray⟩,.string ⟨([65,78,68]:List UInt8).toArray⟩,.string ⟨([79,82]:List UInt8).toArray⟩,.string ⟨([78,79,84]:List UInt8).toArray⟩,.string ⟨([73,83]:List UInt8).toArray⟩,.string ⟨([78,85,76,76]:List UInt8).toArray⟩,.string ⟨([84,82,85,69]:List UInt8).toArray⟩,.string ⟨([70,65,76,83,69]:List UInt8).toArray⟩,.string ⟨([67,79,85,78,84]:List UInt8).toArray⟩,.string ⟨([83,85,77]:List UInt8).toArray⟩,.string ⟨([77,73,78]:List UInt8).toArray⟩,.string ⟨([77,65,88]:List UInt8).toArray⟩]:List Value))∈glob:=by simp [glob]
theorem gr2: ∀S,(jm rS 28).rc S ([.string ⟨([83,69,76,69,67,84]:List UInt8).toArray⟩,.string ⟨([68,73,83,84,73,78,67,84]:List UInt8).toArray⟩,.string ⟨([70,82,79,77]:List UInt8).toArray⟩,.string ⟨([76,69,70,84]:List UInt8).toArray⟩,.string ⟨([74,79,73,78]:List UInt8).toArray⟩,.string ⟨([79,78]:List UInt8).toArray⟩,.string ⟨([87,72,69,82,69]:List UInt8).toArray⟩,.string ⟨([71,82,79,85,80]:List UInt8).toArray⟩,.string ⟨([66,89]:List UInt8).toArray⟩,.string ⟨([72,65,86,73,78,71]:List UInt8).toArray⟩,.string ⟨([85,78,73,79,78]:List UInt8).toArray⟩,.string ⟨([65,76,76]:List UInt8).toArray⟩,.string ⟨([79,82,68,69,82]:List UInt8).toArray⟩,.string ⟨([76,73,77,73,84]:List UInt8).toArray⟩,.string ⟨([65,83,67]:List UInt8).toArray⟩,.string ⟨([68,69,83,67]:List UInt8).toArray⟩,.string ⟨([65,83]:List UInt8).toArray⟩,.string ⟨([65,78,68]:List UInt8).toArray⟩,.string ⟨([79,82]:List UInt8).toArray⟩,.string ⟨([78,79,84]:List UInt8).toArray⟩,.string ⟨([73,83]:List UInt8).toArray⟩,.string ⟨([78,85,76,76]:List UInt8).toArray⟩,.string ⟨([84,82,85,69]:List UInt8).toArray⟩,.string ⟨([70,65,76,83,69]:List UInt8).toArray⟩,.string ⟨([67,79,85,78,84]:List UInt8).toArray⟩,.string ⟨([83,85,77]:List UInt8).toArray⟩,.string ⟨([77,73,78]:List UInt8).toArray⟩,.string ⟨([77,65,88]:List UInt8).toArray⟩]:List Value) O7:=fun _=>⟨rfl,⟨[.string ⟨([83,69,76,69,67,84]:List UInt8).toArray⟩],[.string ⟨([68,73,83,84,73,78,67,84]:List UInt8).toArray⟩,.string ⟨([70,82,79,77]:List UInt8).toArray⟩,.string ⟨([76,69,70,84]:List UInt8).toArray⟩,.string ⟨([74,79,73,78]:List UInt8).toArray⟩,.string ⟨([79,78]:List UInt8).toArray⟩,.string ⟨([87,72,69,82,69]:List UInt8).toArray⟩,.string ⟨([71,82,79,85,80]:List UInt8).toArray⟩,.string ⟨([66,89]:List UInt8).toArray⟩,.string ⟨([72,65,86,73,78,71]:List UInt8).toArray⟩,.string ⟨([85,78,73,79,78]:List UInt8).toArray⟩,.string ⟨([65,76,76]:List UInt8).toArray⟩,.string ⟨([79,82,68,69,82]:List UInt8).toArray⟩,.string ⟨([76,73,77,73,84]:List UInt8).toArray⟩,.string ⟨([65,83,67]:List UInt8).toArray⟩,.string ⟨([68,69,83,67]:List UInt8).toArray⟩,.string ⟨([65,83]:List UInt8).toArray⟩,.string ⟨([65,78,68]:List UInt8).toArray⟩,.string ⟨([79,82]:List UInt8).toArray⟩,.string ⟨([78,79,84]:List UInt8).toArray⟩,.string ⟨([73,83]:List UInt8).toArray⟩,.string ⟨([78,85,76,76]:List UInt8).toArray⟩,.string ⟨([84,82,85,69]:List UInt8).toArray⟩,.string ⟨([70,65,76,83,69]:List UInt8).toArray⟩,.string ⟨([67,79,85,78,84]:List UInt8).toArray⟩,.string ⟨([83,85,77]:List UInt8).toArray⟩,.string ⟨([77,73,78]:List UInt8).toArray⟩,.string ⟨([77,65,88]:List UInt8).toArray⟩],rfl,rfl,⟨[.string ⟨([68,73,83,84,73,78,67,84]:List UInt8).toArray⟩],[.string ⟨([70,82,79,77]:List UInt8).toArray⟩,.string ⟨([76,69,70,84]:List UInt8).toArray⟩,.string ⟨([74,79,73,78]:List UInt8).toArray⟩,.string ⟨([79,78]:List UInt8).toArray⟩,.string ⟨([87,72,69,82,69]:List UInt8).toArray⟩,.string ⟨([71,82,79,85,80]:List UInt8).toArray⟩,.string ⟨([66,89]:List UInt8).toArray⟩,.string ⟨([72,65,86,73,78,71]:List UInt8).toArray⟩,.string ⟨([85,78,73,79,78]:List UInt8).toArray⟩,.string ⟨([65,76,76]:List UInt8).toArray⟩,.string ⟨([79,82,68,69,82]:List UInt8).toArray⟩,.string ⟨([76,73,77,73,84]:List UInt8).toArray⟩,.string ⟨([65,83,67]:List UInt8).toArray⟩,.string ⟨([68,69,83,67]:List UInt8).toArray⟩,.string ⟨([65,83]:List UInt8).toArray⟩,.string ⟨([65,78,68]:List UInt8).toArray⟩,.string ⟨([79,82]:List UInt8).toArray⟩,.string ⟨([78,79,84]:List UInt8).toArray⟩,.string ⟨([73,83]:List UInt8).toArray⟩,.string ⟨([78,85,76,76]:List UInt8).toArray⟩,.string ⟨([84,82,85,69]:List UInt8).toArray⟩,.string ⟨([70,65,76,83,69]:List UInt8).toArray⟩,.string ⟨([67,79,85,78,84]:List UInt8).toArray⟩,.string ⟨([83,85,77]:List UInt8).toArray⟩,.string ⟨([77,73,78]:List UInt8).toArray⟩,.string ⟨([77,65,88]:List UInt8).toArray⟩],rfl,rfl,⟨[.string ⟨([70,82,79,77]:List UInt8).toArray⟩],[.string ⟨([76,69,70,84]:List UInt8).toArray⟩,.string ⟨([74,79,73,78]:List UInt8).toArray⟩,.string ⟨([79,78]:List UInt8).toArray⟩,.string ⟨([87,72,69,82,69]:List UInt8).toArray⟩,.string ⟨([71,82,79,85,80]:List UInt8).toArray⟩,.string ⟨([66,89]:List UInt8).toArray⟩,.string ⟨([72,65,86,73,78,71]:List UInt8).toArray⟩,.string ⟨([85,78,73,79,78]:List UInt8).toArray⟩,.string ⟨([65,76,76]:List UInt8).toArray⟩,.string ⟨([79,82,68,69,82]:List UInt8).toArray⟩,.string ⟨([76,73,77,73,84]:List UInt8).toArray⟩,.string ⟨([65,83,67]:List UInt8).toArray⟩,.string ⟨([68,69,83,67]:List UInt8).toArray⟩,.string ⟨([65,83]:List UInt8).toArray⟩,.string ⟨([65,78,68]:List UInt8).toArray⟩,.string ⟨([79,82]:List UInt8).toArray⟩,.string ⟨([78,79,84]:List UInt8).toArray⟩,.string ⟨([73,83]:List UInt8).toArray⟩,.string ⟨([78,85,76,76]:List UInt8).toArray⟩,.string ⟨([84,82,85,69]:List UInt8).toArray⟩,.string ⟨([70,65,76,83,69]:List UInt8).toArray⟩,.string ⟨([67,79,85,78,84]:List UInt8).toArray⟩,.string ⟨([83,85,77]:List UInt8).toArray⟩,.string ⟨([77,73,78]:List UInt8).toArray⟩,.string ⟨([77,65,88]:List UInt8).toArray⟩],rfl,rfl,⟨[.string ⟨([76,69,70,84]:List UInt8).toArray⟩],[.string ⟨([74,79,73,78]:List UInt8).toArray⟩,.string ⟨([79,78]:List UInt8).toArray⟩,.string ⟨([87,72,69,82,69]:List UInt8).toArray⟩,.string ⟨([71,82,79,85,80]:List UInt8).toArray⟩,.string ⟨([66,89]:List UInt8).toArray⟩,.string ⟨([72,65,86,73,78,71]:List UInt8).toArray⟩,.string ⟨([85,78,73,79,78]:List UInt8).toArray⟩,.string ⟨([65,76,76]:List UInt8).toArray⟩,.string ⟨([79,82,68,69,82]:List UInt8).toArray⟩,.string ⟨([76,73,77,73,84]:List UInt8).toArray⟩,.string ⟨([65,83,67]:List UInt8).toArray⟩,.string ⟨([68,69,83,67]:List UInt8).toArray⟩,.string ⟨([65,83]:List UInt8).toArray⟩,.string ⟨([65,78,68]:List UInt8).toArray⟩,.string ⟨([79,82]:List UInt8).toArray⟩,.string ⟨([78,79,84]:List UInt8).toArray⟩,.string ⟨([73,83]:List UInt8).toArray⟩,.string ⟨([78,85,76,76]:List UInt8).toArray⟩,.string ⟨([84,82,85,69]:List UInt8).toArray⟩,.string ⟨([70,65,76,83,69]:List UInt8).toArray⟩,.string ⟨([67,79,85,78,84]:List UInt8).toArray⟩,.string ⟨([83,85,77]:List UInt8).toArray⟩,.string ⟨([77,73,78]:List UInt8).toArray⟩,.string ⟨([77,65,88]:List UInt8).toArray⟩],rfl,rfl,⟨[.string ⟨([74,79,73,78]:List UInt8).toArray⟩],[.string ⟨([79,78]:List UInt8).toArray⟩,.string ⟨([87,72,69,82,69]:List UInt8).toArray⟩,.string ⟨([71,82,79,85,80]:List UInt8).toArray⟩,.string ⟨([66,89]:List UInt8).toArray⟩,.string ⟨([72,65,86,73,78,71]:List UInt8).toArray⟩,.string ⟨([85,78,73,79,78]:List UInt8).toArray⟩,.string ⟨([65,76,76]:List UInt8).toArray⟩,.string ⟨([79,82,68,69,82]:List UInt8).toArray⟩,.string ⟨([76,73,77,73,84]:List UInt8).toArray⟩,.string ⟨([65,83,67]:List UInt8).toArray⟩,.string ⟨([68,69,83,67]:List UInt8).toArray⟩,.string ⟨([65,83]:List UInt8).toArray⟩,.string ⟨([65,78,68]:List UInt8).toArray⟩,.string ⟨([79,82]:List UInt8).toArray⟩,.string ⟨([78,79,84]:List UInt8).toArray⟩,.string ⟨([73,83]:List UInt8).toArray⟩,.string ⟨([78,85,76,76]:List UInt8).toArray⟩,.string ⟨([84,82,85,69]:List UInt8).toArray⟩,.string ⟨([70,65,76,83,69]:List UInt8).toArray⟩,.string ⟨([67,79,85,78,84]:List UInt8).toArray⟩,.string ⟨([83,85,77]:List UInt8).toArray⟩,.string ⟨([77,73,78]:List UInt8).toArray⟩,.string ⟨([77,65,88]:List UInt8).toArray⟩],rfl,rfl,⟨[.string ⟨([79,78]:List UInt8).toArray⟩],[.string ⟨([87,72,69,82,69]:List UInt8).toArray⟩,.string ⟨([71,82,79,85,80]:List UInt8).toArray⟩,.string ⟨([66,89]:List UInt8).toArray⟩,.string ⟨([72,65,86,73,78,71]:List UInt8).toArray⟩,.string ⟨([85,78,73,79,78]:List UInt8).toArray⟩,.string ⟨([65,76,76]:List UInt8).toArray⟩,.string ⟨([79,82,68,69,82]:List UInt8).toArray⟩,.string ⟨([76,73,77,73,84]:List UInt8).toArray⟩,.string ⟨([65,83,67]:List UInt8).toArray⟩,.string ⟨([68,69,83,67]:List UInt8).toArray⟩,.string ⟨([65,83]:List UInt8).toArray⟩,.string ⟨([65,78,68]:List UInt8).toArray⟩,.string ⟨([79,82]:List UInt8).toArray⟩,.string ⟨([78,79,84]:List UInt8).toArray⟩,.string ⟨([73,83]:List UInt8).toArray⟩,.string ⟨([78,85,76,76]:List UInt8).toArray⟩,.string ⟨([84,82,85,69]:List UInt8).toArray⟩,.string ⟨([70,65,76,83,69]:List UInt8).toArray⟩,.string ⟨([67,79,85,78,84]:List UInt8).toArray⟩,.string ⟨([83,85,77]:List UInt8).toArray⟩,.string ⟨([77,73,78]:List UInt8).toArray⟩,.string ⟨([77,65,88]:List UInt8).toArray⟩],rfl,rfl,⟨[.string ⟨([87,72,69,82,69]:List UInt8).toArray⟩],[.string ⟨([71,82,79,85,80]:List UInt8).toArray⟩,.string ⟨([66,89]:List UInt8).toArray⟩,.string ⟨([72,65,86,73,78,71]:List UInt8).toArray⟩,.string ⟨([85,78,73,79,78]:List UInt8).toArray⟩,.string ⟨([65,76,76]:List UInt8).toArray⟩,.string ⟨([79,82,68,69,82]:List UInt8).toArray⟩,.string ⟨([76,73,77,73,84]:List UInt8).toArray⟩,.string ⟨([65,83,67]:List UInt8).toArray⟩,.string ⟨([68,69,83,67]:List UInt8).toArray⟩,.string ⟨([65,83]:List UInt8).toArray⟩,.string ⟨([65,78,68]:List UInt8).toArray⟩,.string ⟨([79,82]:List UInt8).toArray⟩,.string ⟨([78,79,84]:List UInt8).toArray⟩,.string ⟨([73,83]:List UInt8).toArray⟩,.string ⟨([78,85,76,76]:List UInt8).toArray⟩,.string ⟨([84,82,85,69]:List UInt8).toArray⟩,.string ⟨([70,65,76,83,69]:List UInt8).toArray⟩,.string ⟨([67,79,85,78,84]:List UInt8).toArray⟩,.string ⟨([83,85,77]:List UInt8).toArray⟩,.string ⟨([77,73,78]:List UInt8).toArray⟩,.string ⟨([77,65,88]:List UInt8).toArray⟩],rfl,rfl,⟨[.string ⟨([71,82,79,85,80]:List UInt8).toArray⟩],[.string ⟨([66,89]:List UInt8).toArray⟩,.string ⟨([72,65,86,73,78,71]:List UInt8).toArray⟩,.string ⟨([85,78,73,79,78]:List UInt8).toArray⟩,.string ⟨([65,76,76]:List UInt8).toArray⟩,.string ⟨([79,82,68,69,82]:List UInt8).toArray⟩,.string ⟨([76,73,77,73,84]:List UInt8).toArray⟩,.string ⟨([65,83,67]:List UInt8).toArray⟩,.string ⟨([68,69,83,67]:List UInt8).toArray⟩,.string ⟨([65,83]:List UInt8).toArray⟩,.string ⟨([65,78,68]:List UInt8).toArray⟩,.string ⟨([79,82]:List UInt8).toArray⟩,.string ⟨([78,79,84]:List UInt8).toArray⟩,.string ⟨([73,83]:List UInt8).toArray⟩,.string ⟨([78,85,76,76]:List UInt8).toArray⟩,.string ⟨([84,82,85,69]:List UInt8).toArray⟩,.string ⟨([70,65,76,83,69]:List UInt8).toArray⟩,.string ⟨([67,79,85,78,84]:List UInt8).toArray⟩,.string ⟨([83,85,77]:List UInt8).toArray⟩,.string ⟨([77,73,78]:List UInt8).toArray⟩,.string ⟨([77,65,88]:List UInt8).toArray⟩],rfl,rfl,⟨[.string ⟨([66,89]:List UInt8).toArray⟩],[.string ⟨([72,65,86,73,78,71]:List UInt8).toArray⟩,.string ⟨([85,78,73,79,78]:List UInt8).toArray⟩,.string ⟨([65,76,76]:List UInt8).toArray⟩,.string ⟨([79,82,68,69,82]:List UInt8).toArray⟩,.string ⟨([76,73,77,73,84]:List UInt8).toArray⟩,.string ⟨([65,83,67]:List UInt8).toArray⟩,.string ⟨([68,69,83,67]:List UInt8).toArray⟩,.string ⟨([65,83]:List UInt8).toArray⟩,.string ⟨([65,78,68]:List UInt8).toArray⟩,.string ⟨([79,82]:List UInt8).toArray⟩,.string ⟨([78,79,84]:List UInt8).toArray⟩,.string ⟨([73,83]:List UInt8).toArray⟩,.string ⟨([78,85,76,76]:List UInt8).toArray⟩,.string ⟨([84,82,85,69]:List UInt8).toArray⟩,.string ⟨([70,65,76,83,69]:List UInt8).toArray⟩,.string ⟨([67,79,85,78,84]:List UInt8).toArray⟩,.string ⟨([83,85,77]:List UInt8).toArray⟩,.string ⟨([77,73,78]:List UInt8).toArray⟩,.string ⟨([77,65,88]:List UInt8).toArray⟩],rfl,rfl,⟨[.string ⟨([72,65,86,73,78,71]:List UInt8).toArray⟩],[.string ⟨([85,78,73,79,78]:List UInt8).toArray⟩,.string ⟨([65,76,76]:List UInt8).toArray⟩,.string ⟨([79,82,68,69,82]:List UInt8).toArray⟩,.string ⟨([76,73,77,73,84]:List UInt8).toArray⟩,.string ⟨([65,83,67]:List UInt8).toArray⟩,.string ⟨([68,69,83,67]:List UInt8).toArray⟩,.string ⟨([65,83]:List UInt8).toArray⟩,.string ⟨([65,78,68]:List UInt8).toArray⟩,.string ⟨([79,82]:List UInt8).toArray⟩,.string ⟨([78,79,84]:List UInt8).toArray⟩,.string ⟨([73,83]:List UInt8).toArray⟩,.string ⟨([78,85,76,76]:List UInt8).toArray⟩,.string ⟨([84,82,85,69]:List UInt8).toArray⟩,.string ⟨([70,65,76,83,69]:List UInt8).toArray⟩,.string ⟨([67,79,85,78,84]:List UInt8).toArray⟩,.string ⟨([83,85,77]:List UInt8).toArray⟩,.string ⟨([77,73,78]:List UInt8).toArray⟩,.string ⟨([77,65,88]:List UInt8).toArray⟩],rfl,rfl,⟨[.string ⟨([85,78,73,79,78]:List UInt8).toArray⟩],[.string ⟨([65,76,76]:List UInt8).toArray⟩,.string ⟨([79,82,68,69,82]:List UInt8).toArray⟩,.string ⟨([76,73,77,73,84]:List UInt8).toArray⟩,.string ⟨([65,83,67]:List UInt8).toArray⟩,.string ⟨([68,69,83,67]:List UInt8).toArray⟩,.string ⟨([65,83]:List UInt8).toArray⟩,.string ⟨([65,78,68]:List UInt8).toArray⟩,.string ⟨([79,82]:List UInt8).toArray⟩,.string ⟨([78,79,84]:List UInt8).toArray⟩,.string ⟨([73,83]:List UInt8).toArray⟩,.string ⟨([78,85,76,76]:List UInt8).toArray⟩,.string ⟨([84,82,85,69]:List UInt8).toArray⟩,.string ⟨([70,65,76,83,69]:List UInt8).toArray⟩,.string ⟨([67,79,85,78,84]:List UInt8).toArray⟩,.string ⟨([83,85,77]:List UInt8).toArray⟩,.string ⟨([77,73,78]:List UInt8).toArray⟩,.string ⟨([77,65,88]:List UInt8).toArray⟩],rfl,rfl,⟨[.string ⟨([65,76,76]:List UInt8).toArray⟩],[.string ⟨([79,82,68,69,82]:List UInt8).toArray⟩,.string ⟨([76,73,77,73,84]:List UInt8).toArray⟩,.string ⟨([65,83,67]:List UInt8).toArray⟩,.string ⟨([68,69,83,67]:List UInt8).toArray⟩,.string ⟨([65,83]:List UInt8).toArray⟩,.string ⟨([65,78,68]:List UInt8).toArray⟩,.string ⟨([79,82]:List UInt8).toArray⟩,.string ⟨([78,79,84]:List UInt8).toArray⟩,.string ⟨([73,83]:List UInt8).toArray⟩,.string ⟨([78,85,76,76]:List UInt8).toArray⟩,.string ⟨([84,82,85,69]:List UInt8).toArray⟩,.string ⟨([70,65,76,83,69]:List UInt8).toArray⟩,.string ⟨([67,79,85,78,84]:List UInt8).toArray⟩,.string ⟨([83,85,77]:List UInt8).toArray⟩,.string ⟨([77,73,78]:List UInt8).toArray⟩,.string ⟨([77,65,88]:List UInt8).toArray⟩],rfl,rfl,⟨[.string ⟨([79,82,68,69,82]:List UInt8).toArray⟩],[.string ⟨([76,73,77,73,84]:List UInt8).toArray⟩,.string ⟨([65,83,67]:List UInt8).toArray⟩,.string ⟨([68,69,83,67]:List UInt8).toArray⟩,.string ⟨([65,83]:List UInt8).toArray⟩,.string ⟨([65,78,68]:List UInt8).toArray⟩,.string ⟨([79,82]:List UInt8).toArray⟩,.string ⟨([78,79,84]:List UInt8).toArray⟩,.string ⟨([73,83]:List UInt8).toArray⟩,.string ⟨([78,85,76,76]:List UInt8).toArray⟩,.string ⟨([84,82,85,69]:List UInt8).toArray⟩,.string ⟨([70,65,76,83,69]:List UInt8).toArray⟩,.string ⟨([67,79,85,78,84]:List UInt8).toArray⟩,.string ⟨([83,85,77]:List UInt8).toArray⟩,.string ⟨([77,73,78]:List UInt8).toArray⟩,.string ⟨([77,65,88]:List UInt8).toArray⟩],rfl,rfl,⟨[.string ⟨([76,73,77,73,84]:List UInt8).toArray⟩],[.string ⟨([65,83,67]:List UInt8).toArray⟩,.string ⟨([68,69,83,67]:List UInt8).toArray⟩,.string ⟨([65,83]:List UInt8).toArray⟩,.string ⟨([65,78,68]:List UInt8).toArray⟩,.string ⟨([79,82]:List UInt8).toArray⟩,.string ⟨([78,79,84]:List UInt8).toArray⟩,.string ⟨([73,83]:List UInt8).toArray⟩,.string ⟨([78,85,76,76]:List UInt8).toArray⟩,.string ⟨([84,82,85,69]:List UInt8).toArray⟩,.string ⟨([70,65,76,83,69]:List UInt8).toArray⟩,.string ⟨([67,79,85,78,84]:List UInt8).toArray⟩,.string ⟨([83,85,77]:List UInt8).toArray⟩,.string ⟨([77,73,78]:List UInt8).toArray⟩,.string ⟨([77,65,88]:List UInt8).toArray⟩],rfl,rfl,⟨[.string ⟨([65,83,67]:List UInt8).toArray⟩],[.string ⟨([68,69,83,67]:List UInt8).toArray⟩,.string ⟨([65,83]:List UInt8).toArray⟩,.string ⟨([65,78,68]:List UInt8).toArray⟩,.string ⟨([79,82]:List UInt8).toArray⟩,.string ⟨([78,79,84]:List UInt8).toArray⟩,.string ⟨([73,83]:List UInt8).toArray⟩,.string ⟨([78,85,76,76]:List UInt8).toArray⟩,.string ⟨([84,82,85,69]:List UInt8).toArray⟩,.string ⟨([70,65,76,83,69]:List UInt8).toArray⟩,.string ⟨([67,79,85,78,84]:List UInt8).toArray⟩,.string ⟨([83,85,77]:List UInt8).toArray⟩,.string ⟨([77,73,78]:List UInt8).toArray⟩,.string ⟨([77,65,88]:List UInt8).toArray⟩],rfl,rfl,⟨[.string ⟨([68,69,83,67]:List UInt8).toArray⟩],[.string ⟨([65,83]:List UInt8).toArray⟩,.string ⟨([65,78,68]:List UInt8).toArray⟩,.string ⟨([79,82]:List UInt8).toArray⟩,.string ⟨([78,79,84]:List UInt8).toArray⟩,.string ⟨([73,83]:List UInt8).toArray⟩,.string ⟨([78,85,76,76]:List UInt8).toArray⟩,.string ⟨([84,82,85,69]:List UInt8).toArray⟩,.string ⟨([70,65,76,83,69]:List UInt8).toArray⟩,.string ⟨([67,79,85,78,84]:List UInt8).toArray⟩,.string ⟨([83,85,77]:List UInt8).toArray⟩,.string ⟨([77,73,78]:List UInt8).toArray⟩,.string ⟨([77,65,88]:List UInt8).toArray⟩],rfl,rfl,⟨[.string ⟨([65,83]:List UInt8).toArray⟩],[.string ⟨([65,78,68]:List UInt8).toArray⟩,.string ⟨([79,82]:List UInt8).toArray⟩,.string ⟨([78,79,84]:List UInt8).toArray⟩,.string ⟨([73,83]:List UInt8).toArray⟩,.string ⟨([78,85,76,76]:List UInt8).toArray⟩,.string ⟨([84,82,85,69]:List UInt8).toArray⟩,.string ⟨([70,65,76,83,69]:List UInt8).toArray⟩,.string ⟨([67,79,85,78,84]:List UInt8).toArray⟩,.string ⟨([83,85,77]:List UInt8).toArray⟩,.string ⟨([77,73,78]:List UInt8).toArray⟩,.string ⟨([77,65,88]:List UInt8).toArray⟩],rfl,rfl,⟨[.string ⟨([65,78,68]:List UInt8).toArray⟩],[.string ⟨([79,82]:List UInt8).toArray⟩,.string ⟨([78,79,84]:List UInt8).toArray⟩,.string ⟨([73,83]:List UInt8).toArray⟩,.string ⟨([78,85,76,76]:List UInt8).toArray⟩,.string ⟨([84,82,85,69]:List UInt8).toArray⟩,.string ⟨([70,65,76,83,69]:List UInt8).toArray⟩,.string ⟨([67,79,85,78,84]:List UInt8).toArray⟩,.string ⟨([83,85,77]:List UInt8).toArray⟩,.string ⟨([77,73,78]:List UInt8).toArray⟩,.string ⟨([77,65,88]:List UInt8).toArray⟩],rfl,rfl,⟨[.string ⟨([79,82]:List UInt8).toArray⟩],[.string ⟨([78,79,84]:List UInt8).toArray⟩,.string ⟨([73,83]:List UInt8).toArray⟩,.string ⟨([78,85,76,76]:List UInt8).toArray⟩,.string ⟨([84,82,85,69]:List UInt8).toArray⟩,.string ⟨([70,65,76,83,69]:List UInt8).toArray⟩,.string ⟨([67,79,85,78,84]:List UInt8).toArray⟩,.string ⟨([83,85,77]:List UInt8).toArray⟩,.string ⟨([77,73,78]:List UInt8).toArray⟩,.string ⟨([77,65,88]:List UInt8).toArray⟩],rfl,rfl,⟨[.string ⟨([78,79,84]:List UInt8).toArray⟩],[.string ⟨([73,83]:List UInt8).toArray⟩,.string ⟨([78,85,76,76]:List UInt8).toArray⟩,.string ⟨([84,82,85,69]:List UInt8).toArray⟩,.string ⟨([70,65,76,83,69]:List UInt8).toArray⟩,.string ⟨([67,79,85,78,84]:List UInt8).toArray⟩,.string ⟨([83,85,77]:List UInt8).toArray⟩,.string ⟨([77,73,78]:List UInt8).toArray⟩,.string ⟨([77,65,88]:List UInt8).toArray⟩],rfl,rfl,⟨[.string ⟨([73,83]:List UInt8).toArray⟩],[.string ⟨([78,85,76,76]:List UInt8).toArray⟩,.string ⟨([84,82,85,69]:List UInt8).toArray⟩,.string ⟨([70,65,76,83,69]:List UInt8).toArray⟩,.string ⟨([67,79,85,78,84]:List UInt8).toArray⟩,.string ⟨([83,85,77]:List UInt8).toArray⟩,.string ⟨([77,73,78]:List UInt8).toArray⟩,.string ⟨([77,65,88]:List UInt8).toArray⟩],rfl,rfl,⟨[.string ⟨([78,85,76,76]:List UInt8).toArray⟩],[.string ⟨([84,82,85,69]:List UInt8).toArray⟩,.string ⟨([70,65,76,83,69]:List UInt8).toArray⟩,.string ⟨([67,79,85,78,84]:List UInt8).toArray⟩,.string ⟨([83,85,77]:List UInt8).toArray⟩,.string ⟨([77,73,78]:List UInt8).toArray⟩,.string ⟨([77,65,88]:List UInt8).toArray⟩],rfl,rfl,⟨[.string ⟨([84,82,85,69]:List UInt8).toArray⟩],[.string ⟨([70,65,76,83,69]:List UInt8).toArray⟩,.string ⟨([67,79,85,78,84]:List UInt8).toArray⟩,.string ⟨([83,85,77]:List UInt8).toArray⟩,.string ⟨([77,73,78]:List UInt8).toArray⟩,.string ⟨([77,65,88]:List UInt8).toArray⟩],rfl,rfl,⟨[.string ⟨([70,65,76,83,69]:List UInt8).toArray⟩],[.string ⟨([67,79,85,78,84]:List UInt8).toArray⟩,.string ⟨([83,85,77]:List UInt8).toArray⟩,.string ⟨([77,73,78]:List UInt8).toArray⟩,.string ⟨([77,65,88]:List UInt8).toArray⟩],rfl,rfl,⟨[.string ⟨([67,79,85,78,84]:List UInt8).toArray⟩],[.string ⟨([83,85,77]:List UInt8).toArray⟩,.string ⟨([77,73,78]:List UInt8).toArray⟩,.string ⟨([77,65,88]:List UInt8).toArray⟩],rfl,rfl,⟨[.string ⟨([83,85,77]:List UInt8).toArray⟩],[.string ⟨([77,73,78]:List UInt8).toArray⟩,.string ⟨([77,65,88]:List UInt8).toArray⟩],rfl,rfl,⟨[.string ⟨([77,73,78]:List UInt8).toArray⟩],[.string ⟨([77,65,88]:List UInt8).toArray⟩],rfl,rfl,⟨[.string ⟨([77,65,88]:List UInt8).toArray⟩],[],rfl,rfl,(rfl:_=[])⟩⟩⟩⟩⟩⟩⟩⟩⟩⟩⟩⟩⟩⟩⟩⟩⟩⟩⟩⟩⟩⟩⟩⟩⟩⟩⟩⟩⟩

end Go.Proofs.YtmogpgcfognefaaGreatDoor

