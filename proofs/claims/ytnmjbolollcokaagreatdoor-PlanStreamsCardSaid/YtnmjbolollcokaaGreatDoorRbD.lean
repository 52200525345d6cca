/- cJ of this claim: D. -/
import Derived.Test.YtnmjbolollcokaaGreatDoorRbV4
set_option linter.all false
namespace Go.Proofs.YtnmjbolollcokaaGreatDoor
open Go

structure de where
 Kind:Int
 N:Int
 U:Int
 S:jn
 deriving DecidableEq,Inhabited
def db:Rp de:=iG (bO (rI .i64) (bO (rI .i64) (bO (rI .u64) rS))) (fun x=>(x.Kind,x.N,x.U,x.S))
theorem pf:ik db 0 (rI .i64) (fun x=>x.Kind):=(cx bP)
theorem rD:dR db 0 (rI .i64) (fun x y=>{x with Kind:=y}):=bG cm (fun _ _=>rfl)
theorem rP:ik db 1 (rI .i64) (fun x=>x.N):=(cx (aL bP rfl))
theorem vJ:dR db 1 (rI .i64) (fun x y=>{x with N:=y}):=bG (aI cm rfl) (fun _ _=>rfl)
theorem BU:ik db 2 (rI .u64) (fun x=>x.U):=(cx (aL (aL bP rfl) rfl))
theorem Bx:dR db 2 (rI .u64) (fun x y=>{x with U:=y}):=bG (aI (aI cm rfl) rfl) (fun _ _=>rfl)
theorem rO:ik db 3 rS (fun x=>x.S):=(aL (aL (aL bP rfl) rfl) rfl)
theorem Bw:dR db 3 rS (fun x y=>{x with S:=y}):=bG (aI (aI (aI aj rfl) rfl) rfl) (fun _ _=>rfl)
theorem pN: ∀S,db.rc S [.int .i64 0,.int .i64 0,.int .u64 0,.string ⟨#[]⟩] ((⟨(0:Int),(0:Int),(0:Int),[]⟩:de)):=fun _=>⟨[.int .i64 0],[.int .i64 0,.int .u64 0,.string ⟨#[]⟩],rfl,rfl,⟨[.int .i64 0],[.int .u64 0,.string ⟨#[]⟩],rfl,rfl,⟨[.int .u64 0],[.string ⟨#[]⟩],rfl,rfl,rfl⟩⟩⟩
structure bT where
 Tag:Int
 L:Int
 R:Int
 Col:Int
 Value:de
 deriving DecidableEq,Inhabited
def aY:Rp bT:=iG (bO (rI .i64) (bO (rI .i64) (bO (rI .i64) (bO (rI .i64) db)))) (fun x=>(x.Tag,x.L,x.R,x.Col,x.Value))
theorem dV:ik aY 0 (rI .i64) (fun x=>x.Tag):=(cx bP)
theorem ph:ik aY 1 (rI .i64) (fun x=>x.L):=(cx (aL bP rfl))
theorem BD:dR aY 1 (rI .i64) (fun x y=>{x with L:=y}):=bG (aI cm rfl) (fun _ _=>rfl)
theorem pg:ik aY 2 (rI .i64) (fun x=>x.R):=(cx (aL (aL bP rfl) rfl))
theorem BC:dR aY 2 (rI .i64) (fun x y=>{x with R:=y}):=bG (aI (aI cm rfl) rfl) (fun _ _=>rfl)
theorem fJ:ik aY 3 (rI .i64) (fun x=>x.Col):=(cx (aL (aL (aL bP rfl) rfl) rfl))
theorem mU:ik aY 4 db (fun x=>x.Value):=(aL (aL (aL (aL bP rfl) rfl) rfl) rfl)
theorem kw: ∀S,aY.rc S [.int .i64 0,.int .i64 0,.int .i64 0,.int .i64 0,.int .i64 0,.int .i64 0,.int .u64 0,.string ⟨#[]⟩] ((⟨(0:Int),(0:Int),(0:Int),(0:Int),(⟨(0:Int),(0:Int),(0:Int),[]⟩:de)⟩:bT)):=fun _=>⟨[.int .i64 0],[.int .i64 0,.int .i64 0,.int .i64 0,.int .i64 0,.int .i64 0,.int .u64 0,.string ⟨#[]⟩],rfl,rfl,⟨[.int .i64 0],[.int .i64 0,.int .i64 0,.int .i64 0,.int .i64 0,.int .u64 0,.string ⟨#[]⟩],rfl,rfl,⟨[.int .i64 0],[.int .i64 0,.int .i64 0,.int .i64 0,.int .u64 0,.string ⟨#[]⟩],rfl,rfl,⟨[.int .i64 0],[.int .i64 0,.int .i64 0,.int .u64 0,.string ⟨#[]⟩],rfl,rfl,pN _⟩⟩⟩⟩
structure bw where
 Nodes:(List bT)
 deriving DecidableEq,Inhabited
def br:Rp bw:=iG (dz aY) (fun x=>(x.Nodes))
theorem cC:ik br 0 (dz aY) (fun x=>x.Nodes):=bP
theorem tq:dR br 0 (dz aY) (fun x y=>{x with Nodes:=y}):=bG aj (fun _ _=>rfl)
theorem mh: ∀S,br.rc S [.slice none 0 0] ((⟨[]⟩:bw)):=fun _=>⟨none,0,rfl,fy _,im _,.inl rfl⟩
structure ko where
 Tag:Int
 Arg:bw
 deriving DecidableEq,Inhabited
def dc:Rp ko:=iG (bO (rI .i64) br) (fun x=>(x.Tag,x.Arg))
theorem sM:ik dc 0 (rI .i64) (fun x=>x.Tag):=(cx bP)
theorem Ac:dR dc 0 (rI .i64) (fun x y=>{x with Tag:=y}):=bG cm (fun _ _=>rfl)
theorem qn:ik dc 1 br (fun x=>x.Arg):=(aL bP rfl)
theorem EV:dR dc 1 br (fun x y=>{x with Arg:=y}):=bG (aI aj rfl) (fun _ _=>rfl)
theorem tk: ∀S,dc.rc S [.int .i64 0,.slice none 0 0] ((⟨(0:Int),(⟨[]⟩:bw)⟩:ko)):=fun _=>⟨[.int .i64 0],[.slice none 0 0],rfl,rfl,mh _⟩
structure jD where
 Col:Int
 Desc:Bool
 deriving DecidableEq,Inhabited
def gp:Rp jD:=iG (bO (rI .i64) rB) (fun x=>(x.Col,x.Desc))
theorem AG:ik gp 0 (rI .i64) (fun x=>x.Col):=(cx bP)
structure ai where
 Op:Int
 A:Int
 B:Int
 Table:Int
 Kinds:(List Int)
 Left:Bool
 Cond:bw
 Keys:(List Int)
 Aggs:(List ko)
 Items:(List bw)
 Order:(List jD)
 Limit:Int
 deriving DecidableEq,Inhabited
def ak:Rp ai:=iG (bO (rI .i64) (bO (rI .i64) (bO (rI .i64) (bO (rI .i64) (bO (dz (rI .i64)) (bO rB (bO br (bO (dz (rI .i64)) (bO (dz dc) (bO (dz br) (bO (dz gp) (rI .i64)))))))))))) (fun x=>(x.Op,x.A,x.B,x.Table,x.Kinds,x.Left,x.Cond,x.Keys,x.Aggs,x.Items,x.Order,x.Limit))
theorem j8:ik ak 0 (rI .i64) (fun x=>x.Op):=(cx bP)
theorem oM:dR ak 0 (rI .i64) (fun x y=>{x with Op:=y}):=bG cm (fun _ _=>rfl)
theorem dk:ik ak 1 (rI .i64) (fun x=>x.A):=(cx (aL bP rfl))
theorem k7:dR ak 1 (rI .i64) (fun x y=>{x with A:=y}):=bG (aI cm rfl) (fun _ _=>rfl)
theorem fI:ik ak 2 (rI .i64) (fun x=>x.B):=(cx (aL (aL bP rfl) rfl))
theorem jY:dR ak 2 (rI .i64) (fun x y=>{x with B:=y}):=bG (aI (aI cm rfl) rfl) (fun _ _=>rfl)
theorem j7:ik ak 3 (rI .i64) (fun x=>x.Table):=(cx (aL (aL (aL bP rfl) rfl) rfl))
theorem rF:dR ak 3 (rI .i64) (fun x y=>{x with Table:=y}):=bG (aI (aI (aI cm rfl) rfl) rfl) (fun _ _=>rfl)
theorem ji:ik ak 4 (dz (rI .i64)) (fun x=>x.Kinds):=(cx (aL (aL (aL (aL bP rfl) rfl) rfl) rfl))
theorem oL:dR ak 4 (dz (rI .i64)) (fun x y=>{x with Kinds:=y}):=bG (aI (aI (aI (aI cm rfl) rfl) rfl) rfl) (fun _ _=>rfl)
theorem BV:ik ak 5 rB (fun x=>x.Left):=(cx (aL (aL (aL (aL (aL bP rfl) rfl) rfl) rfl) rfl))
theorem BB:dR ak 5 rB (fun x y=>{x with Left:=y}):=bG (aI (aI (aI (aI (aI cm rfl) rfl) rfl) rfl) rfl) (fun _ _=>rfl)
theorem j6:ik ak 6 br (fun x=>x.Cond):=(cx (aL (aL (aL (aL (aL (aL bP rfl) rfl) rfl) rfl) rfl) rfl))
theorem rE:dR ak 6 br (fun x y=>{x with Cond:=y}):=bG (aI (aI (aI (aI (aI (aI cm rfl) rfl) rfl) rfl) rfl) rfl) (fun _ _=>rfl)
theorem gx:ik ak 7 (dz (rI .i64)) (fun x=>x.Keys):=(cx (aL (aL (aL (aL (aL (aL (aL bP rfl) rfl) rfl) rfl) rfl) rfl) rfl))
theorem vN:dR ak 7 (dz (rI .i64)) (fun x y=>{x with Keys:=y}):=bG (aI (aI (aI (aI (aI (aI (aI cm rfl) rfl) rfl) rfl) rfl) rfl) rfl) (fun _ _=>rfl)
theorem ic:ik ak 8 (dz dc) (fun x=>x.Aggs):=(cx (aL (aL (aL (aL (aL (aL (aL (aL bP rfl) rfl) rfl) rfl) rfl) rfl) rfl) rfl))
theorem vM:dR ak 8 (dz dc) (fun x y=>{x with Aggs:=y}):=bG (aI (aI (aI (aI (aI (aI (aI (aI cm rfl) rfl) rfl) rfl) rfl) rfl) rfl) rfl) (fun _ _=>rfl)
theorem gw:ik ak 9 (dz br) (fun x=>x.Items):=(cx (aL (aL (aL (aL (aL (aL (aL (aL (aL bP rfl) rfl) rfl) rfl) rfl) rfl) rfl) rfl) rfl))
theorem BA:dR ak 9 (dz br) (fun x y=>{x with Items:=y}):=bG (aI (aI (aI (aI (aI (aI (aI (aI (aI cm rfl) rfl) rfl) rfl) rfl) rfl) rfl) rfl) rfl) (fun _ _=>rfl)
theorem lL:ik ak 10 (dz gp) (fun x=>x.Order):=(cx (aL (aL (aL (aL (aL (aL (aL (aL (aL (aL bP rfl) rfl) rfl) rfl) rfl) rfl) rfl) rfl) rfl) rfl))
theorem uk:dR ak 10 (dz gp) (fun x y=>{x with Order:=y}):=bG (aI (aI (aI (aI (aI (aI (aI (aI (aI (aI cm rfl) rfl) rfl) rfl) rfl) rfl) rfl) rfl) rfl) rfl) (fun _ _=>rfl)
theorem qm:ik ak 11 (rI .i64) (fun x=>x.Limit):=(aL (aL (aL (aL (aL (aL (aL (aL (aL (aL (aL bP rfl) rfl) rfl) rfl) rfl) rfl) rfl) rfl) rfl) rfl) rfl)
theorem Ab:dR ak 11 (rI .i64) (fun x y=>{x with Limit:=y}):=bG (aI (aI (aI (aI (aI (aI (aI (aI (aI (aI (aI aj rfl) rfl) rfl) rfl) rfl) rfl) rfl) rfl) rfl) rfl) rfl) (fun _ _=>rfl)
theorem gG: ∀S,ak.rc S [.int .i64 0,.int .i64 0,.int .i64 0,.int .i64 0,.slice none 0 0,.bool false,.slice none 0 0,.slice none 0 0,.slice none 0 0,.slice none 0 0,.slice none 0 0,.int .i64 0] ((⟨(0:Int),(0:Int),(0:Int),(0:Int),[],false,(⟨[]⟩:bw),[],[],[],[],(0:Int)⟩:ai)):=fun _=>⟨[.int .i64 0],[.int .i64 0,.int .i64 0,.int .i64 0,.slice none 0 0,.bool false,.slice none 0 0,.slice none 0 0,.slice none 0 0,.slice none 0 0,.slice none 0 0,.int .i64 0],rfl,rfl,⟨[.int .i64 0],[.int .i64 0,.int .i64 0,.slice none 0 0,.bool false,.slice none 0 0,.slice none 0 0,.slice none 0 0,.slice none 0 0,.slice none 0 0,.int .i64 0],rfl,rfl,⟨[.int .i64 0],[.int .i64 0,.slice none 0 0,.bool false,.slice none 0 0,.slice none 0 0,.slice none 0 0,.slice none 0 0,.slice none 0 0,.int .i64 0],rfl,rfl,⟨[.int .i64 0],[.slice none 0 0,.bool false,.slice none 0 0,.slice none 0 0,.slice none 0 0,.slice none 0 0,.slice none 0 0,.int .i64 0],rfl,rfl,⟨[.slice none 0 0],[.bool false,.slice none 0 0,.slice none 0 0,.slice none 0 0,.slice none 0 0,.slice none 0 0,.int .i64 0],rfl,⟨none,0,rfl,fy _,im _,.inl rfl⟩,⟨[.bool false],[.slice none 0 0,.slice none 0 0,.slice none 0 0,.slice none 0 0,.slice none 0 0,.int .i64 0],rfl,rfl,⟨[.slice none 0 0],[.slice none 0 0,.slice none 0 0,.slice none 0 0,.slice none 0 0,.int .i64 0],rfl,mh _,⟨[.slice none 0 0],[.slice none 0 0,.slice none 0 0,.slice none 0 0,.int .i64 0],rfl,⟨none,0,rfl,fy _,im _,.inl rfl⟩,⟨[.slice none 0 0],[.slice none 0 0,.slice none 0 0,.int .i64 0],rfl,⟨none,0,rfl,fy _,im _,.inl rfl⟩,⟨[.slice none 0 0],[.slice none 0 0,.int .i64 0],rfl,⟨none,0,rfl,fy _,im _,.inl rfl⟩,⟨[.slice none 0 0],[.int .i64 0],rfl,⟨none,0,rfl,fy _,im _,.inl rfl⟩,rfl⟩⟩⟩⟩⟩⟩⟩⟩⟩⟩⟩
structure cF where
 Nodes:(List ai)
 deriving DecidableEq,Inhabited
def cq:Rp cF:=iG (dz ak) (fun x=>(x.Nodes))
theorem gv:ik cq 0 (dz ak) (fun x=>x.Nodes):=bP
theorem Bz:dR cq 0 (dz ak) (fun x y=>{x with Nodes:=y}):=bG aj (fun _ _=>rfl)
theorem lB: ∀S,cq.rc S [.slice none 0 0] ((⟨[]⟩:cF)):=fun _=>⟨none,0,rfl,fy _,im _,.inl rfl⟩
structure aB where
 Logic:cF
 kinds:(List (List Int))
 first:(List Int)
 deriving DecidableEq,Inhabited
def aZ:Rp aB:=iG (bO cq (bO (dz (dz (rI .i64))) (dz (rI .i64)))) (fun x=>(x.Logic,x.kinds,x.first))
theorem pe:ik aZ 0 cq (fun x=>x.Logic):=(cx bP)
theorem yL:dR aZ 0 cq (fun x y=>{x with Logic:=y}):=bG cm (fun _ _=>rfl)
theorem zc:ik aZ 1 (dz (dz (rI .i64))) (fun x=>x.kinds):=(cx (aL bP rfl))
theorem yK:dR aZ 1 (dz (dz (rI .i64))) (fun x y=>{x with kinds:=y}):=bG (aI cm rfl) (fun _ _=>rfl)
theorem sL:ik aZ 2 (dz (rI .i64)) (fun x=>x.first):=(aL (aL bP rfl) rfl)
theorem yJ:dR aZ 2 (dz (rI .i64)) (fun x y=>{x with first:=y}):=bG (aI (aI aj rfl) rfl) (fun _ _=>rfl)
theorem Bk: ∀S,aZ.rc S [.slice none 0 0,.slice none 0 0,.slice none 0 0] ((⟨(⟨[]⟩:cF),[],[]⟩:aB)):=fun _=>⟨[.slice none 0 0],[.slice none 0 0,.slice none 0 0],rfl,lB _,⟨[.slice none 0 0],[.slice none 0 0],rfl,⟨none,0,rfl,fy _,im _,.inl rfl⟩,⟨none,0,rfl,fy _,im _,.inl rfl⟩⟩⟩
structure bX where
 Name:jn
 Kind:Int
 deriving DecidableEq,Inhabited
def cR:Rp bX:=iG (bO rS (rI .i64)) (fun x=>(x.Name,x.Kind))
theorem AH:ik cR 0 rS (fun x=>x.Name):=(cx bP)
theorem pV:dR cR 0 rS (fun x y=>{x with Name:=y}):=bG cm (fun _ _=>rfl)
theorem uz:ik cR 1 (rI .i64) (fun x=>x.Kind):=(aL bP rfl)
theorem pU:dR cR 1 (rI .i64) (fun x y=>{x with Kind:=y}):=bG (aI aj rfl) (fun _ _=>rfl)
theorem mp: ∀S,cR.rc S [.string ⟨#[]⟩,.int .i64 0] ((⟨[],(0:Int)⟩:bX)):=fun _=>⟨[.string ⟨#[]⟩],[.int .i64 0],rfl,rfl,rfl⟩
structure wD where
 word:jn
 kind:Int
 deriving DecidableEq,Inhabited
def oO:Rp wD:=iG (bO rS (rI .i64)) (fun x=>(x.word,x.kind))
theorem DX:ik oO 0 rS (fun x=>x.word):=(cx bP)
theorem DW:ik oO 1 (rI .i64) (fun x=>x.kind):=(aL bP rfl)
theorem Gd: ∀S,oO.rc S [.string ⟨#[]⟩,.int .i64 0] ((⟨[],(0:Int)⟩:wD)):=fun _=>⟨[.string ⟨#[]⟩],[.int .i64 0],rfl,rfl,rfl⟩
structure cc where
 Name:jn
 Columns:(List bX)
 Keys:(List Int)
 deriving DecidableEq,Inhabited
def cW:Rp cc:=iG (bO rS (bO (dz cR) (dz (rI .i64)))) (fun x=>(x.Name,x.Columns,x.Keys))
theorem wg:ik cW 0 rS (fun x=>x.Name):=(cx bP)
theorem vL:dR cW 0 rS (fun x y=>{x with Name:=y}):=bG cm (fun _ _=>rfl)
theorem lj:ik cW 1 (dz cR) (fun x=>x.Columns):=(cx (aL bP rfl))
theorem vK:dR cW 1 (dz cR) (fun x y=>{x with Columns:=y}):=bG (aI cm rfl) (fun _ _=>rfl)
theorem rQ:ik cW 2 (dz (rI .i64)) (fun x=>x.Keys):=(aL (aL bP rfl) rfl)
theorem By:dR cW 2 (dz (rI .i64)) (fun x y=>{x with Keys:=y}):=bG (aI (aI aj rfl) rfl) (fun _ _=>rfl)
theorem vy: ∀S,cW.rc S [.string ⟨#[]⟩,.slice none 0 0,.slice none 0 0] ((⟨[],[],[]⟩:cc)):=fun _=>⟨[.string ⟨#[]⟩],[.slice none 0 0,.slice none 0 0],rfl,rfl,⟨[.slice none 0 0],[.slice none 0 0],rfl,⟨none,0,rfl,fy _,im _,.inl rfl⟩,⟨none,0,rfl,fy _,im _,.inl rfl⟩⟩⟩
structure ff where
 Tables:(List cc)
 deriving DecidableEq,Inhabited
def dU:Rp ff:=iG (dz cW) (fun x=>(x.Tables))
theorem jz:ik dU 0 (dz cW) (fun x=>x.Tables):=bP
theorem yM:dR dU 0 (dz cW) (fun x y=>{x with Tables:=y}):=bG aj (fun _ _=>rfl)
theorem ru: ∀S,dU.rc S [.slice none 0 0] ((⟨[]⟩:ff)):=fun _=>⟨none,0,rfl,fy _,im _,.inl rfl⟩
structure cA where
 Nodes:(List ai)
 At:Int
 Way:Int
 Cols:(List Int)
 deriving DecidableEq,Inhabited
def aN:Rp cA:=iG (bO (dz ak) (bO (rI .i64) (bO (rI .i64) (dz (rI .i64))))) (fun x=>(x.Nodes,x.At,x.Way,x.Cols))
theorem ov:ik aN 0 (dz ak) (fun x=>x.Nodes):=(cx bP)
theorem xv:dR aN 0 (dz ak) (fun x y=>{x with Nodes:=y}):=bG cm (fun _ _=>rfl)
theorem DZ:ik aN 1 (rI .i64) (fun x=>x.At):=(cx (aL bP rfl))
theorem xu:dR aN 1 (rI .i64) (fun x y=>{x with At:=y}):=bG (aI cm rfl) (fun _ _=>rfl)
theorem xr:dR aN 2 (rI .i64) (fun x y=>{x with Way:=y}):=bG (aI (aI cm rfl) rfl) (fun _ _=>rfl)
theorem DY:ik aN 3 (dz (rI .i64)) (fun x=>x.Cols):=(aL (aL (aL bP rfl) rfl) rfl)
theorem DA:dR aN 3 (dz (rI .i64)) (fun x y=>{x with Cols:=y}):=bG (aI (aI (aI aj rfl) rfl) rfl) (fun _ _=>rfl)
theorem sh: ∀S,aN.rc S [.slice none 0 0,.int .i64 0,.int .i64 0,.slice none 0 0] ((⟨[],(0:Int),(0:Int),[]⟩:cA)):=fun _=>⟨[.slice none 0 0],[.int .i64 0,.int .i64 0,.slice none 0 0],rfl,⟨none,0,rfl,fy _,im _,.inl rfl⟩,⟨[.int .i64 0],[.int .i64 0,.slice none 0 0],rfl,rfl,⟨[.int .i64 0],[.slice none 0 0],rfl,rfl,⟨none,0,rfl,fy _,im _,.inl rfl⟩⟩⟩⟩
structure bW where
 Frags:(List cA)
 deriving DecidableEq,Inhabited
def bB:Rp bW:=iG (dz aN) (fun x=>(x.Frags))
theorem fC:ik bB 0 (dz aN) (fun x=>x.Frags):=bP
theorem xq:dR bB 0 (dz aN) (fun x y=>{x with Frags:=y}):=bG aj (fun _ _=>rfl)
theorem oD: ∀S,bB.rc S [.slice none 0 0] ((⟨[]⟩:bW)):=fun _=>⟨none,0,rfl,fy _,im _,.inl rfl⟩
structure aE where
 Plan:bW
 tree:cF
 catalog:ff
 kinds:(List (List Int))
 deriving DecidableEq,Inhabited
def aJ:Rp aE:=iG (bO bB (bO cq (bO dU (dz (dz (rI .i64)))))) (fun x=>(x.Plan,x.tree,x.catalog,x.kinds))
theorem pc:ik aJ 0 bB (fun x=>x.Plan):=(cx bP)
theorem sm:dR aJ 0 bB (fun x y=>{x with Plan:=y}):=bG cm (fun _ _=>rfl)
theorem zb:ik aJ 1 cq (fun x=>x.tree):=(cx (aL bP rfl))
theorem yI:dR aJ 1 cq (fun x y=>{x with tree:=y}):=bG (aI cm rfl) (fun _ _=>rfl)
theorem za:ik aJ 2 dU (fun x=>x.catalog):=(cx (aL (aL bP rfl) rfl))
theorem yH:dR aJ 2 dU (fun x y=>{x with catalog:=y}):=bG (aI (aI cm rfl) rfl) (fun _ _=>rfl)
theorem yG:dR aJ 3 (dz (dz (rI .i64))) (fun x y=>{x with kinds:=y}):=bG (aI (aI (aI aj rfl) rfl) rfl) (fun _ _=>rfl)
theorem Bj: ∀S,aJ.rc S [.slice none 0 0,.slice none 0 0,.slice none 0 0,.slice none 0 0] ((⟨(⟨[]⟩:bW),(⟨[]⟩:cF),(⟨[]⟩:ff),[]⟩:aE)):=fun _=>⟨[.slice none 0 0],[.slice none 0 0,.slice none 0 0,.slice none 0 0],rfl,oD _,⟨[.slice none 0 0],[.slice none 0 0,.slice none 0 0],rfl,lB _,⟨[.slice none 0 0],[.slice none 0 0],rfl,ru _,⟨none,0,rfl,fy _,im _,.inl rfl⟩⟩⟩⟩
structure bb where
 nodes:(List ai)
 kinds:(List Int)
 at_:Int
 hashed:(List Int)
 deriving DecidableEq,Inhabited
def ah:Rp bb:=iG (bO (dz ak) (bO (dz (rI .i64)) (bO (rI .i64) (dz (rI .i64))))) (fun x=>(x.nodes,x.kinds,x.at_,x.hashed))
theorem tM:ik ah 0 (dz ak) (fun x=>x.nodes):=(cx bP)
theorem xp:dR ah 0 (dz ak) (fun x y=>{x with nodes:=y}):=bG cm (fun _ _=>rfl)
theorem tL:ik ah 1 (dz (rI .i64)) (fun x=>x.kinds):=(cx (aL bP rfl))
theorem xo:dR ah 1 (dz (rI .i64)) (fun x y=>{x with kinds:=y}):=bG (aI cm rfl) (fun _ _=>rfl)
theorem gO:ik ah 2 (rI .i64) (fun x=>x.at_):=(cx (aL (aL bP rfl) rfl))
theorem xn:dR ah 2 (rI .i64) (fun x y=>{x with at_:=y}):=bG (aI (aI cm rfl) rfl) (fun _ _=>rfl)
theorem fB:ik ah 3 (dz (rI .i64)) (fun x=>x.hashed):=(aL (aL (aL bP rfl) rfl) rfl)
theorem qF:dR ah 3 (dz (rI .i64)) (fun x y=>{x with hashed:=y}):=bG (aI (aI (aI aj rfl) rfl) rfl) (fun _ _=>rfl)
theorem dv: ∀S,ah.rc S [.slice none 0 0,.slice none 0 0,.int .i64 0,.slice none 0 0] ((⟨[],[],(0:Int),[]⟩:bb)):=fun _=>⟨[.slice none 0 0],[.slice none 0 0,.int .i64 0,.slice none 0 0],rfl,⟨none,0,rfl,fy _,im _,.inl rfl⟩,⟨[.slice none 0 0],[.int .i64 0,.slice none 0 0],rfl,⟨none,0,rfl,fy _,im _,.inl rfl⟩,⟨[.int .i64 0],[.slice none 0 0],rfl,rfl,⟨none,0,rfl,fy _,im _,.inl rfl⟩⟩⟩⟩
structure aV where
 Frag:Int
 From:Int
 To:Int
 deriving DecidableEq,Inhabited
def bv:Rp aV:=iG (bO (rI .i64) (bO (rI .i64) (rI .i64))) (fun x=>(x.Frag,x.From,x.To))
theorem nC:ik bv 0 (rI .i64) (fun x=>x.Frag):=(cx bP)
theorem Aa:dR bv 0 (rI .i64) (fun x y=>{x with Frag:=y}):=bG cm (fun _ _=>rfl)
theorem ql:ik bv 1 (rI .i64) (fun x=>x.From):=(cx (aL bP rfl))
theorem z8:dR bv 1 (rI .i64) (fun x y=>{x with From:=y}):=bG (aI cm rfl) (fun _ _=>rfl)
theorem qk:ik bv 2 (rI .i64) (fun x=>x.To):=(aL (aL bP rfl) rfl)
theorem z7:dR bv 2 (rI .i64) (fun x y=>{x with To:=y}):=bG (aI (aI aj rfl) rfl) (fun _ _=>rfl)
theorem od: ∀S,bv.rc S [.int .i64 0,.int .i64 0,.int .i64 0] ((⟨(0:Int),(0:Int),(0:Int)⟩:aV)):=fun _=>⟨[.int .i64 0],[.int .i64 0,.int .i64 0],rfl,rfl,⟨[.int .i64 0],[.int .i64 0],rfl,rfl,rfl⟩⟩
structure M3 where
 Frag:Int
 Nodes:Int
 Node:Int
 deriving DecidableEq,Inhabited
structure DSide where
 Frags:(List cA)
 Nodes:(List ai)
 Kinds:(List Int)
 One:Bool
 Hashed:(List Int)
 deriving DecidableEq,Inhabited
structure A1 where
 Nodes:Value
def jZ:Rp A1:=iG rV (fun x=>(x.Nodes))
theorem y8:ik jZ 0 rV (fun x=>x.Nodes):=bP
def lg(y:cF)(v0:Value):A1:=⟨v0⟩
theorem Bi: ∀S,jZ.rc S [.slice none 0 0] (lg ((⟨[]⟩:cF)) (aC none 0 0)):=fun _=>⟨rfl,rfl⟩
structure C3 where
 Nodes:Value
def jq:Rp C3:=iG rV (fun x=>(x.Nodes))
theorem uy:ik jq 0 rV (fun x=>x.Nodes):=bP
theorem z6:dR jq 0 rV (fun x y=>{x with Nodes:=y}):=bG aj (fun _ _=>rfl)
def kd(y:bw)(v0:Value):C3:=⟨v0⟩
theorem xf: ∀S,jq.rc S [.slice none 0 0] (kd ((⟨[]⟩:bw)) (aC none 0 0)):=fun _=>⟨rfl,rfl⟩
structure A2 where
 Op:Int
 A:Int
 B:Int
 Table:Int
 Kinds:(List Int)
 Left:Bool
 Cond:bw
 Keys:(List Int)
 Aggs:Value
 Items:(List bw)
 Order:(List jD)
 Limit:Int
def fG:Rp A2:=iG (bO (rI .i64) (bO (rI .i64) (bO (rI .i64) (bO (rI .i64) (bO (dz (rI .i64)) (bO rB (bO br (bO (dz (rI .i64)) (bO rV (bO (dz br) (bO (dz gp) (rI .i64)))))))))))) (fun x=>(x.Op,x.A,x.B,x.Table,x.Kinds,x.Left,x.Cond,x.Keys,x.Aggs,x.Items,x.Order,x.Limit))
theorem yF:dR fG 0 (rI .i64) (fun x y=>{x with Op:=y}):=bG cm (fun _ _=>rfl)
theorem yE:dR fG 7 (dz (rI .i64)) (fun x y=>{x with Keys:=y}):=bG (aI (aI (aI (aI (aI (aI (aI cm rfl) rfl) rfl) rfl) rfl) rfl) rfl) (fun _ _=>rfl)
theorem y9:ik fG 8 rV (fun x=>x.Aggs):=(cx (aL (aL (aL (aL (aL (aL (aL (aL bP rfl) rfl) rfl) rfl) rfl) rfl) rfl) rfl))
def hM(y:ai)(v8:Value):A2:=⟨y.Op,y.A,y.B,y.Table,y.Kinds,y.Left,y.Cond,y.Keys,v8,y.Items,y.Order,y.Limit⟩
theorem vx: ∀S,fG.rc S [.int .i64 0,.int .i64 0,.int .i64 0,.int .i64 0,.slice none 0 0,.bool false,.slice none 0 0,.slice none 0 0,.slice none 0 0,.slice none 0 0,.slice none 0 0,.int .i64 0] (hM ((⟨(0:Int),(0:Int),(0:Int),(0:Int),[],false,(⟨[]⟩:bw),[],[],[],[],(0:Int)⟩:ai)) (aC none 0 0)):=fun _=>⟨[.int .i64 0],[.int .i64 0,.int .i64 0,.int .i64 0,.slice none 0 0,.bool false,.slice none 0 0,.slice none 0 0,.slice none 0 0,.slice none 0 0,.slice none 0 0,.int .i64 0],rfl,rfl,⟨[.int .i64 0],[.int .i64 0,.int .i64 0,.slice none 0 0,.bool false,.slice none 0 0,.slice none 0 0,.slice none 0 0,.slice none 0 0,.slice none 0 0,.int .i64 0],rfl,rfl,⟨[.int .i64 0],[.int .i64 0,.slice none 0 0,.bool false,.slice none 0 0,.slice none 0 0,.slice none 0 0,.slice none 0 0,.slice none 0 0,.int .i64 0],rfl,rfl,⟨[.int .i64 0],[.slice none 0 0,.bool false,.slice none 0 0,.slice none 0 0,.slice none 0 0,.slice none 0 0,.slice none 0 0,.int .i64 0],rfl,rfl,⟨[.slice none 0 0],[.bool false,.slice none 0 0,.slice none 0 0,.slice none 0 0,.slice none 0 0,.slice none 0 0,.int .i64 0],rfl,⟨none,0,rfl,fy _,im _,.inl rfl⟩,⟨[.bool false],[.slice none 0 0,.slice none 0 0,.slice none 0 0,.slice none 0 0,.slice none 0 0,.int .i64 0],rfl,rfl,⟨[.slice none 0 0],[.slice none 0 0,.slice none 0 0,.slice none 0 0,.slice none 0 0,.int .i64 0],rfl,mh _,⟨[.slice none 0 0],[.slice none 0 0,.slice none 0 0,.slice none 0 0,.int .i64 0],rfl,⟨none,0,rfl,fy _,im _,.inl rfl⟩,⟨[.slice none 0 0],[.slice none 0 0,.slice none 0 0,.int .i64 0],rfl,⟨rfl,rfl⟩,⟨[.slice none 0 0],[.slice none 0 0,.int .i64 0],rfl,⟨none,0,rfl,fy _,im _,.inl rfl⟩,⟨[.slice none 0 0],[.int .i64 0],rfl,⟨none,0,rfl,fy _,im _,.inl rfl⟩,rfl⟩⟩⟩⟩⟩⟩⟩⟩⟩⟩⟩
structure wB where
 Op:Int
 A:Int
 B:Int
 Table:Int
 Kinds:(List Int)
 Left:Bool
 Cond:bw
 Keys:(List Int)
 Aggs:Value
 Items:Value
 Order:(List jD)
 Limit:Int
def f8:Rp wB:=iG (bO (rI .i64) (bO (rI .i64) (bO (rI .i64) (bO (rI .i64) (bO (dz (rI .i64)) (bO rB (bO br (bO (dz (rI .i64)) (bO rV (bO rV (bO (dz gp) (rI .i64)))))))))))) (fun x=>(x.Op,x.A,x.B,x.Table,x.Kinds,x.Left,x.Cond,x.Keys,x.Aggs,x.Items,x.Order,x.Limit))
theorem mT:ik f8 8 rV (fun x=>x.Aggs):=(cx (aL (aL (aL (aL (aL (aL (aL (aL bP rfl) rfl) rfl) rfl) rfl) rfl) rfl) rfl))
theorem mS:ik f8 9 rV (fun x=>x.Items):=(cx (aL (aL (aL (aL (aL (aL (aL (aL (aL bP rfl) rfl) rfl) rfl) rfl) rfl) rfl) rfl) rfl))
def jx(y:ai)(v8:Value)(v9:Value):wB:=⟨y.Op,y.A,y.B,y.Table,y.Kinds,y.Left,y.Cond,y.Keys,v8,v9,y.Order,y.Limit⟩
structure C2 where
 nodes:Value
 kinds:(List Int)
 at_:Int
 hashed:(List Int)
def fV:Rp C2:=iG (bO rV (bO (dz (rI .i64)) (bO (rI .i64) (dz (rI .i64))))) (fun x=>(x.nodes,x.kinds,x.at_,x.hashed))
theorem lK:ik fV 0 rV (fun x=>x.nodes):=(cx bP)
theorem zZ:dR fV 1 (dz (rI .i64)) (fun x y=>{x with kinds:=y}):=bG (aI cm rfl) (fun _ _=>rfl)
theorem zY:dR fV 2 (rI .i64) (fun x y=>{x with at_:=y}):=bG (aI (aI cm rfl) rfl) (fun _ _=>rfl)
def iC(y:bb)(v0:Value):C2:=⟨v0,y.kinds,y.at_,y.hashed⟩
theorem xe: ∀S,fV.rc S [.slice none 0 0,.slice none 0 0,.int .i64 0,.slice none 0 0] (iC ((⟨[],[],(0:Int),[]⟩:bb)) (aC none 0 0)):=fun _=>⟨[.slice none 0 0],[.slice none 0 0,.int .i64 0,.slice none 0 0],rfl,⟨rfl,rfl⟩,⟨[.slice none 0 0],[.int .i64 0,.slice none 0 0],rfl,⟨none,0,rfl,fy _,im _,.inl rfl⟩,⟨[.int .i64 0],[.slice none 0 0],rfl,rfl,⟨none,0,rfl,fy _,im _,.inl rfl⟩⟩⟩⟩
theorem u4{S:SH}{cs:List Value}{y:cF}{v0:Value}{xs0:(List ai)}(k0:(dz ak).rc S [v0] xs0)(h:jZ.rc S cs (lg y v0)):cq.rc S cs ((⟨xs0⟩:cF)):=by
 have h0:=h
 exact(by rw [h0.1];exact k0)
theorem wr{S:SH}{cs:List Value}{y:bw}{v0:Value}{xs0:(List bT)}(k0:(dz aY).rc S [v0] xs0)(h:jq.rc S cs (kd y v0)):br.rc S cs ((⟨xs0⟩:bw)):=by
 have h0:=h
 exact(by rw [h0.1];exact k0)
theorem u5{S:SH}{cs:List Value}{y:ai}{v8:Value}{xs8:(List ko)}(k8:(dz dc).rc S [v8] xs8)(h:fG.rc S cs (hM y v8)):ak.rc S cs ((⟨y.Op,y.A,y.B,y.Table,y.Kinds,y.Left,y.Cond,y.Keys,xs8,y.Items,y.Order,y.Limit⟩:ai)):=by
 obtain⟨a0,b0,e0,h0,a1,b1,e1,h1,a2,b2,e2,h2,a3,b3,e3,h3,a4,b4,e4,h4,a5,b5,e5,h5,a6,b6,e6,h6,a7,b7,e7,h7,a8,b8,e8,h8,a9,b9,e9,h9,a10,b10,e10,h10,h11⟩:=h
 exact⟨a0,b0,e0,h0,a1,b1,e1,h1,a2,b2,e2,h2,a3,b3,e3,h3,a4,b4,e4,h4,a5,b5,e5,h5,a6,b6,e6,h6,a7,b7,e7,h7,a8,b8,e8,(by rw [h8.1];exact k8),a9,b9,e9,h9,a10,b10,e10,h10,h11⟩
theorem sU{S:SH}{cs:List Value}{y:ai}{v8:Value}{v9:Value}{xs8:(List ko)}(k8:(dz dc).rc S [v8] xs8){xs9:(List bw)}(k9:(dz br).rc S [v9] xs9)(h:f8.rc S cs (jx y v8 v9)):ak.rc S cs ((⟨y.Op,y.A,y.B,y.Table,y.Kinds,y.Left,y.Cond,y.Keys,xs8,xs9,y.Order,y.Limit⟩:ai)):=by
 obtain⟨a0,b0,e0,h0,a1,b1,e1,h1,a2,b2,e2,h2,a3,b3,e3,h3,a4,b4,e4,h4,a5,b5,e5,h5,a6,b6,e6,h6,a7,b7,e7,h7,a8,b8,e8,h8,a9,b9,e9,h9,a10,b10,e10,h10,h11⟩:=h
 exact⟨a0,b0,e0,h0,a1,b1,e1,h1,a2,b2,e2,h2,a3,b3,e3,h3,a4,b4,e4,h4,a5,b5,e5,h5,a6,b6,e6,h6,a7,b7,e7,h7,a8,b8,e8,(by rw [h8.1];exact k8),a9,b9,e9,(by rw [h9.1];exact k9),a10,b10,e10,h10,h11⟩
theorem wq{S:SH}{cs:List Value}{y:bb}{v0:Value}{xs0:(List ai)}(k0:(dz ak).rc S [v0] xs0)(h:fV.rc S cs (iC y v0)):ah.rc S cs ((⟨xs0,y.kinds,y.at_,y.hashed⟩:bb)):=by
 obtain⟨a0,b0,e0,h0,a1,b1,e1,h1,a2,b2,e2,h2,h3⟩:=h
 exact⟨a0,b0,e0,(by rw [h0.1];exact k0),a1,b1,e1,h1,a2,b2,e2,h2,h3⟩
theorem pP(y:cF)(u:Value)(v:Value):m4 jZ jZ 0 rV (lg y u) v (lg y v):=sl (kc rfl) rfl
theorem rC(y:ai)(v:Value):m4 ak fG 8 rV (y) v (hM y v):=sl (d7 (d7 (d7 (d7 (d7 (d7 (d7 (d7 (va (kc rfl) rfl) rfl) rfl) rfl) rfl) rfl) rfl) rfl) rfl) rfl
theorem pQ(y:ai)(u:Value)(v:Value):m4 fG fG 8 rV (hM y u) v (hM y v):=sl (d7 (d7 (d7 (d7 (d7 (d7 (d7 (d7 (va (kc rfl) rfl) rfl) rfl) rfl) rfl) rfl) rfl) rfl) rfl) rfl
theorem oH(y:ai)(v8:Value)(v:Value):m4 fG f8 9 rV (hM y v8) v (jx y v8 v):=sl (d7 (d7 (d7 (d7 (d7 (d7 (d7 (d7 (d7 (va (kc rfl) rfl) rfl) rfl) rfl) rfl) rfl) rfl) rfl) rfl) rfl) rfl
theorem me(y:bb)(u:Value)(v:Value):m4 fV fV 0 rV (iC y u) v (iC y v):=sl (va (kc rfl) rfl) rfl
def cD(b:Nat)(x:aB)(i:OI):List OE:=[bx (rH aZ [(1,aC (i.h 0).1 (i.h 0).2 x.kinds.length),(2,aC (i.h 1).1 (i.h 1).2 x.first.length)]) 123 b x,bV (dz (rI .i64)) 42 (i.h 0).1 (i.h 0).2 x.kinds,bV (rI .i64) 3 (i.h 1).1 (i.h 1).2 x.first]
def d2(b:Nat)(x:aE)(i:OI):List OE:=[bx (rH aJ [(0,aC (i.h 0).1 (i.h 0).2 x.Plan.Frags.length),(3,aC (i.h 1).1 (i.h 1).2 x.kinds.length)]) 91 b x,bV aN 74 (i.h 0).1 (i.h 0).2 x.Plan.Frags,bV (dz (rI .i64)) 42 (i.h 1).1 (i.h 1).2 x.kinds]
def LU:(List wD):=[(⟨[98,111,111,108],(1:Int)⟩:wD),(⟨[105,110,116],(2:Int)⟩:wD),(⟨[116,101,120,116],(3:Int)⟩:wD)]
theorem gm0:((0:Nat),([.string ⟨([98,111,111,108]:List UInt8).toArray⟩,.int .i64 (1),.string ⟨([105,110,116]:List UInt8).toArray⟩,.int .i64 (2),.string ⟨([116,101,120,116]:List UInt8).toArray⟩,.int .i64 (3)]:List Value))∈glob:=by simp [glob]
theorem gr0: ∀S,(ol oO 3).rc S ([.string ⟨([98,111,111,108]:List UInt8).toArray⟩,.int .i64 (1),.string ⟨([105,110,116]:List UInt8).toArray⟩,.int .i64 (2),.string ⟨([116,101,120,116]:List UInt8).toArray⟩,.int .i64 (3)]:List Value) LU:=fun _=>⟨rfl,⟨[.string ⟨([98,111,111,108]:List UInt8).toArray⟩,.int .i64 (1)],[.string ⟨([105,110,116]:List UInt8).toArray⟩,.int .i64 (2),.string ⟨([116,101,120,116]:List UInt8).toArray⟩,.int .i64 (3)],rfl,⟨[.string ⟨([98,111,111,108]:List UInt8).toArray⟩],[.int .i64 (1)],rfl,rfl,rfl⟩,⟨[.string ⟨([105,110,116]:List UInt8).toArray⟩,.int .i64 (2)],[.string ⟨([116,101,120,116]:List UInt8).toArray⟩,.int .i64 (3)],rfl,⟨[.string ⟨([105,110,116]:List UInt8).toArray⟩],[.int .i64 (2)],rfl,rfl,rfl⟩,⟨[.string ⟨([116,101,120,116]:List UInt8).toArray⟩,.int .i64 (3)],[],rfl,⟨[.string ⟨([116,101,120,116]:List UInt8).toArray⟩],[.int .i64 (3)],rfl,rfl,rfl⟩,(rfl:_=[])⟩⟩⟩⟩
def Md:(List jn):=[[83,69,76,69,67,84],[68,73,83,84,73,78,67,84],[70,82,79,77],[76,69,70,84],[74,79,73,78],[79,78],[87,72,69,82,69],[71,82,79,85,80],[66,89],[72,65,86,73,78,71],[85,78,73,79,78],[65,76,76],[79,82,68,69,82],[76,73,77,73,84],[65,83,67],[68,69,83,67],[65,83],[65,78,68],[79,82],[78,79,84],[73,83],[78,85,76,76],[84,82,85,69],[70,65,76,83,69],[67,79,85,78,84],[83,85,77],[77,73,78],[77,65,88]]
theorem gm1:((1:Nat),([.string ⟨([83,69,76,69,67,84]:List UInt8).toArray⟩,.string ⟨([68,73,83,84,73,78,67,84]:List UInt8).toArray⟩,.string ⟨([70,82,79,77]:List UInt8).toArray⟩,.string ⟨([76,69,70,84]:List UInt8).toArray⟩,.string ⟨([74,79,73,78]:List UInt8).toArray⟩,.string ⟨([79,78]:List UInt8).toArray⟩,.string ⟨([87,72,69,82,69]:List UInt8).toArray⟩,.string ⟨([71,82,79,85,80]:List UInt8).toArray⟩,.string ⟨([66,89]:List UInt8).toArray⟩,.string ⟨([72,65,86,73,78,71]:List UInt8).toArray⟩,.string ⟨([85,78,73,79,78]:List UInt8).toArray⟩,.string ⟨([65,76,76]:List UInt8).toArray⟩,.string ⟨([79,82,68,69,82]:List UInt8).toArray⟩,.string ⟨([76,73,77,73,84]:List UInt8).toArray⟩,.string ⟨([65,83,67]:List UInt8).toArray⟩,.string ⟨([68,69,83,67]:List UInt8).toArray⟩,.string ⟨([65,83]:List UInt8).toArray⟩,.string ⟨([65,78,68]:List UInt8).toArray⟩,.string ⟨([79,82]:List UInt8).toArray⟩,.string ⟨([78,79,84]:List UInt8).toArray⟩,.string ⟨([73,83]:List UInt8).toArray⟩,.string ⟨([78,85,76,76]:List UInt8).toArray⟩,.string ⟨([84,82,85,69]:List UInt8).toArray⟩,.string ⟨([70,65,76,83,69]:List UInt8).toArray⟩,.string ⟨([67,79,85,78,84]:List UInt8).toArray⟩,.string ⟨([83,85,77]:List UInt8).toArray⟩,.string ⟨([77,73,78]:List UInt8).toArray⟩,.string ⟨([77,65,88]:List UInt8).toArray⟩]:List Value))∈glob:=by simp [glob]
theorem gr1: ∀S,(ol rS 28).rc S ([.string ⟨([83,69,76,69,67,84]:List UInt8).toArray⟩,.string ⟨([68,73,83,84,73,78,67,84]:List UInt8).toArray⟩,.string ⟨([70,82,79,77]:List UInt8).toArray⟩,.string ⟨([76,69,70,84]:List UInt8).toArray⟩,.string ⟨([74,79,73,78]:List UInt8).toArray⟩,.string ⟨([79,78]:List UInt8).toArray⟩,.string ⟨([87,72,69,82,69]:List UInt8).toArray⟩,.string ⟨([71,82,79,85,80]:List UInt8).toArray⟩,.string ⟨([66,89]:List UInt8).toArray⟩,.string ⟨([72,65,86,73,78,71]:List UInt8).toArray⟩,.string ⟨([85,78,73,79,78]:List UInt8).toArray⟩,.string ⟨([65,76,76]:List UInt8).toArray⟩,.string ⟨([79,82,68,69,82]:List UInt8).toArray⟩,.string ⟨([76,73,77,73,84]:List UInt8).toArray⟩,.string ⟨([65,83,67]:List UInt8).toArray⟩,.string ⟨([68,69,83,67]:List UInt8).toArray⟩,.string ⟨([65,83]:List UInt8).toArray⟩,.string ⟨([65,78,68]:List UInt8).toArray⟩,.string ⟨([79,82]:List UInt8).toArray⟩,.string ⟨([78,79,84]:List UInt8).toArray⟩,.string ⟨([73,83]:List UInt8).toArray⟩,.string ⟨([78,85,76,76]:List UInt8).toArray⟩,.string ⟨([84,82,85,69]:List UInt8).toArray⟩,.string ⟨([70,65,76,83,69]:List UInt8).toArray⟩,.string ⟨([67,79,85,78,84]:List UInt8).toArray⟩,.string ⟨([83,85,77]:List UInt8).toArray⟩,.string ⟨([77,73,78]:List UInt8).toArray⟩,.string ⟨([77,65,88]:List UInt8).toArray⟩]:List Value) Md:=fun _=>⟨rfl,⟨[.string ⟨([83,69,76,69,67,84]:List UInt8).toArray⟩],[.string ⟨([68,73,83,84,73,78,67,84]:List UInt8).toArray⟩,.string ⟨([70,82,79,77]:List UInt8).toArray⟩,.string ⟨([76,69,70,84]:List UInt8).toArray⟩,.string ⟨([74,79,73,78]:List UInt8).toArray⟩,.string ⟨([79,78]:List UInt8).toArray⟩,.string ⟨([87,72,69,82,69]:List UInt8).toArray⟩,.string ⟨([71,82,79,85,80]:List UInt8).toArray⟩,.string ⟨([66,89]:List UInt8).toArray⟩,.string ⟨([72,65,86,73,78,71]:List UInt8).toArray⟩,.string ⟨([85,78,73,79,78]:List UInt8).toArray⟩,.string ⟨([65,76,76]:List UInt8).toArray⟩,.string ⟨([79,82,68,69,82]:List UInt8).toArray⟩,.string ⟨([76,73,77,73,84]:List UInt8).toArray⟩,.string ⟨([65,83,67]:List UInt8).toArray⟩,.string ⟨([68,69,83,67]:List UInt8).toArray⟩,.string ⟨([65,83]:List UInt8).toArray⟩,.string ⟨([65,78,68]:List UInt8).toArray⟩,.string ⟨([79,82]:List UInt8).toArray⟩,.string ⟨([78,79,84]:List UInt8).toArray⟩,.string ⟨([73,83]:List UInt8).toArray⟩,.string ⟨([78,85,76,76]:List UInt8).toArray⟩,.string ⟨([84,82,85,69]:List UInt8).toArray⟩,.string ⟨([70,65,76,83,69]:List UInt8).toArray⟩,.string ⟨([67,79,85,78,84]:List UInt8).toArray⟩,.string ⟨([83,85,77]:List UInt8).toArray⟩,.string ⟨([77,73,78]:List UInt8).toArray⟩,.string ⟨([77,65,88]:List UInt8).toArray⟩],rfl,rfl,⟨[.string ⟨([68,73,83,84,73,78,67,84]:List UInt8).toArray⟩],[.string ⟨([70,82,79,77]:List UInt8).toArray⟩,.string ⟨([76,69,70,84]:List UInt8).toArray⟩,.string ⟨([74,79,73,78]:List UInt8).toArray⟩,.string ⟨([79,78]:List UInt8).toArray⟩,.string ⟨([87,72,69,82,69]:List UInt8).toArray⟩,.string ⟨([71,82,79,85,80]:List UInt8).toArray⟩,.string ⟨([66,89]:List UInt8).toArray⟩,.string ⟨([72,65,86,73,78,71]:List UInt8).toArray⟩,.string ⟨([85,78,73,79,78]:List UInt8).toArray⟩,.string ⟨([65,76,76]:List UInt8).toArray⟩,.string ⟨([79,82,68,69,82]:List UInt8).toArray⟩,.string ⟨([76,73,77,73,84]:List UInt8).toArray⟩,.string ⟨([65,83,67]:List UInt8).toArray⟩,.string ⟨([68,69,83,67]:List UInt8).toArray⟩,.string ⟨([65,83]:List UInt8).toArray⟩,.string ⟨([65,78,68]:List UInt8).toArray⟩,.string ⟨([79,82]:List UInt8).toArray⟩,.string ⟨([78,79,84]:List UInt8).toArray⟩,.string ⟨([73,83]:List UInt8).toArray⟩,.string ⟨([78,85,76,76]:List UInt8).toArray⟩,.string ⟨([84,82,85,69]:List UInt8).toArray⟩,.string ⟨([70,65,76,83,69]:List UInt8).toArray⟩,.string ⟨([67,79,85,78,84]:List UInt8).toArray⟩,.string ⟨([83,85,77]:List UInt8).toArray⟩,.string ⟨([77,73,78]:List UInt8).toArray⟩,.string ⟨([77,65,88]:List UInt8).toArray⟩],rfl,rfl,⟨[.string ⟨([70,82,79,77]:List UInt8).toArray⟩],[.string ⟨([76,69,70,84]:List UInt8).toArray⟩,.string ⟨([74,79,73,78]:List UInt8).toArray⟩,.string ⟨([79,78]:List UInt8).toArray⟩,.string ⟨([87,72,69,82,69]:List UInt8).toArray⟩,.string ⟨([71,82,79,85,80]:List UInt8).toArray⟩,.string ⟨([66,89]:List UInt8).toArray⟩,.string ⟨([72,65,86,73,78,71]:List UInt8).toArray⟩,.string ⟨([85,78,73,79,78]:List UInt8).toArray⟩,.string ⟨([65,76,76]:List UInt8).toArray⟩,.string ⟨([79,82,68,69,82]:List UInt8).toArray⟩,.string ⟨([76,73,77,73,84]:List UInt8).toArray⟩,.string ⟨([65,83,67]:List UInt8).toArray⟩,.string ⟨([68,69,83,67]:List UInt8).toArray⟩,.string ⟨([65,83]:List UInt8).toArray⟩,.string ⟨([65,78,68]:List UInt8).toArray⟩,.string ⟨([79,82]:List UInt8).toArray⟩,.string ⟨([78,79,84]:List UInt8).toArray⟩,.string ⟨([73,83]:List UInt8).toArray⟩,.string ⟨([78,85,76,76]:List UInt8).toArray⟩,.string ⟨([84,82,85,69]:List UInt8).toArray⟩,.string ⟨([70,65,76,83,69]:List UInt8).toArray⟩,.string ⟨([67,79,85,78,84]:List UInt8).toArray⟩,.string ⟨([83,85,77]:List UInt8).toArray⟩,.string ⟨([77,73,78]:List UInt8).toArray⟩,.string ⟨([77,65,88]:List UInt8).toArray⟩],rfl,rfl,⟨[.string ⟨([76,69,70,84]:List UInt8).toArray⟩],[.string ⟨([74,79,73,78]:List UInt8).toArray⟩,.string ⟨([79,78]:List UInt8).toArray⟩,.string ⟨([87,72,69,82,69]:List UInt8).toArray⟩,.string ⟨([71,82,79,85,80]:List UInt8).toArray⟩,.string ⟨([66,89]:List UInt8).toArray⟩,.string ⟨([72,65,86,73,78,71]:List UInt8).toArray⟩,.string ⟨([85,78,73,79,78]:List UInt8).toArray⟩,.string ⟨([65,76,76]:List UInt8).toArray⟩,.string ⟨([79,82,68,69,82]:List UInt8).toArray⟩,.string ⟨([76,73,77,73,84]:List UInt8).toArray⟩,.string ⟨([65,83,67]:List UInt8).toArray⟩,.string ⟨([68,69,83,67]:List UInt8).toArray⟩,.string ⟨([65,83]:List UInt8).toArray⟩,.string ⟨([65,78,68]:List UInt8).toArray⟩,.string ⟨([79,82]:List UInt8).toArray⟩,.string ⟨([78,79,84]:List UInt8).toArray⟩,.string ⟨([73,83]:List UInt8).toArray⟩,.string ⟨([78,85,76,76]:List UInt8).toArray⟩,.string ⟨([84,82,85,69]:List UInt8).toArray⟩,.string ⟨([70,65,76,83,69]:List UInt8).toArray⟩,.string ⟨([67,79,85,78,84]:List UInt8).toArray⟩,.string ⟨([83,85,77]:List UInt8).toArray⟩,.string ⟨([77,73,78]:List UInt8).toArray⟩,.string ⟨([77,65,88]:List UInt8).toArray⟩],rfl,rfl,⟨[.string ⟨([74,79,73,78]:List UInt8).toArray⟩],[.string ⟨([79,78]:List UInt8).toArray⟩,.string ⟨([87,72,69,82,69]:List UInt8).toArray⟩,.string ⟨([71,82,79,85,80]:List UInt8).toArray⟩,.string ⟨([66,89]:List UInt8).toArray⟩,.string ⟨([72,65,86,73,78,71]:List UInt8).toArray⟩,.string ⟨([85,78,73,79,78]:List UInt8).toArray⟩,.string ⟨([65,76,76]:List UInt8).toArray⟩,.string ⟨([79,82,68,69,82]:List UInt8).toArray⟩,.string ⟨([76,73,77,73,84]:List UInt8).toArray⟩,.string ⟨([65,83,67]:List UInt8).toArray⟩,.string ⟨([68,69,83,67]:List UInt8).toArray⟩,.string ⟨([65,83]:List UInt8).toArray⟩,.string ⟨([65,78,68]:List UInt8).toArray⟩,.string ⟨([79,82]:List UInt8).toArray⟩,.string ⟨([78,79,84]:List UInt8).toArray⟩,.string ⟨([73,83]:List UInt8).toArray⟩,.string ⟨([78,85,76,76]:List UInt8).toArray⟩,.string ⟨([84,82,85,69]:List UInt8).toArray⟩,.string ⟨([70,65,76,83,69]:List UInt8).toArray⟩,.string ⟨([67,79,85,78,84]:List UInt8).toArray⟩,.string ⟨([83,85,77]:List UInt8).toArray⟩,.string ⟨([77,73,78]:List UInt8).toArray⟩,.string ⟨([77,65,88]:List UInt8).toArray⟩],rfl,rfl,⟨[.string ⟨([79,78]:List UInt8).toArray⟩],[.string ⟨([87,72,69,82,69]:List UInt8).toArray⟩,.string ⟨([71,82,79,85,80]:List UInt8).toArray⟩,.string ⟨([66,89]:List UInt8).toArray⟩,.string ⟨([72,65,86,73,78,71]:List UInt8).toArray⟩,.string ⟨([85,78,73,79,78]:List UInt8).toArray⟩,.string ⟨([65,76,76]:List UInt8).toArray⟩,.string ⟨([79,82,68,69,82]:List UInt8).toArray⟩,.string ⟨([76,73,77,73,84]:List UInt8).toArray⟩,.string ⟨([65,83,67]:List UInt8).toArray⟩,.string ⟨([68,69,83,67]:List UInt8).toArray⟩,.string ⟨([65,83]:List UInt8).toArray⟩,.string ⟨([65,78,68]:List UInt8).toArray⟩,.string ⟨([79,82]:List UInt8).toArray⟩,.string ⟨([78,79,84]:List UInt8).toArray⟩,.string ⟨([73,83]:List UInt8).toArray⟩,.string ⟨([78,85,76,76]:List UInt8).toArray⟩,.string ⟨([84,82,85,69]:List UInt8).toArray⟩,.string ⟨([70,65,76,83,69]:List UInt8).toArray⟩,.string ⟨([67,79,85,78,84]:List UInt8).toArray⟩,.string ⟨([83,85,77]:List UInt8).toArray⟩,.string ⟨([77,73,78]:List UInt8).toArray⟩,.string ⟨([77,65,88]:List UInt8).toArray⟩],rfl,rfl,⟨[.string ⟨([87,72,69,82,69]:List UInt8).toArray⟩],[.string ⟨([71,82,79,85,80]:List UInt8).toArray⟩,.string ⟨([66,89]:List UInt8).toArray⟩,.string ⟨([72,65,86,73,78,71]:List UInt8).toArray⟩,.string ⟨([85,78,73,79,78]:List UInt8).toArray⟩,.string ⟨([65,76,76]:List UInt8).toArray⟩,.string ⟨([79,82,68,69,82]:List UInt8).toArray⟩,.string ⟨([76,73,77,73,84]:List UInt8).toArray⟩,.string ⟨([65,83,67]:List UInt8).toArray⟩,.string ⟨([68,69,83,67]:List UInt8).toArray⟩,.string ⟨([65,83]:List UInt8).toArray⟩,.string ⟨([65,78,68]:List UInt8).toArray⟩,.string ⟨([79,82]:List UInt8).toArray⟩,.string ⟨([78,79,84]:List UInt8).toArray⟩,.string ⟨([73,83]:List UInt8).toArray⟩,.string ⟨([78,85,76,76]:List UInt8).toArray⟩,.string ⟨([84,82,85,69]:List UInt8).toArray⟩,.string ⟨([70,65,76,83,69]:List UInt8).toArray⟩,.string ⟨([67,79,85,78,84]:List UInt8).toArray⟩,.string ⟨([83,85,77]:List UInt8).toArray⟩,.string ⟨([77,73,78]:List UInt8).toArray⟩,.string ⟨([77,65,88]:List UInt8).toArray⟩],rfl,rfl,⟨[.string ⟨([71,82,79,85,80]:List UInt8).toArray⟩],[.string ⟨([66,89]:List UInt8).toArray⟩,.string ⟨([72,65,86,73,78,71]:List UInt8).toArray⟩,.string ⟨([85,78,73,79,78]:List UInt8).toArray⟩,.string ⟨([65,76,76]:List UInt8).toArray⟩,.string ⟨([79,82,68,69,82]:List UInt8).toArray⟩,.string ⟨([76,73,77,73,84]:List UInt8).toArray⟩,.string ⟨([65,83,67]:List UInt8).toArray⟩,.string ⟨([68,69,83,67]:List UInt8).toArray⟩,.string ⟨([65,83]:List UInt8).toArray⟩,.string ⟨([65,78,68]:List UInt8).toArray⟩,.string ⟨([79,82]:List UInt8).toArray⟩,.string ⟨([78,79,84]:List UInt8).toArray⟩,.string ⟨([73,83]:List UInt8).toArray⟩,.string ⟨([78,85,76,76]:List UInt8).toArray⟩,.string ⟨([84,82,85,69]:List UInt8).toArray⟩,.string ⟨([70,65,76,83,69]:List UInt8).toArray⟩,.string ⟨([67,79,85,78,84]:List UInt8).toArray⟩,.string ⟨([83,85,77]:List UInt8).toArray⟩,.string ⟨([77,73,78]:List UInt8).toArray⟩,.string ⟨([77,65,88]:List UInt8).toArray⟩],rfl,rfl,⟨[.string ⟨([66,89]:List UInt8).toArray⟩],[.string ⟨([72,65,86,73,78,71]:List UInt8).toArray⟩,.string ⟨([85,78,73,79,78]:List UInt8).toArray⟩,.string ⟨([65,76,76]:List UInt8).toArray⟩,.string ⟨([79,82,68,69,82]:List UInt8).toArray⟩,.string ⟨([76,73,77,73,84]:List UInt8).toArray⟩,.string ⟨([65,83,67]:List UInt8).toArray⟩,.string ⟨([68,69,83,67]:List UInt8).toArray⟩,.string ⟨([65,83]:List UInt8).toArray⟩,.string ⟨([65,78,68]:List UInt8).toArray⟩,.string ⟨([79,82]:List UInt8).toArray⟩,.string ⟨([78,79,84]:List UInt8).toArray⟩,.string ⟨([73,83]:List UInt8).toArray⟩,.string ⟨([78,85,76,76]:List UInt8).toArray⟩,.string ⟨([84,82,85,69]:List UInt8).toArray⟩,.string ⟨([70,65,76,83,69]:List UInt8).toArray⟩,.string ⟨([67,79,85,78,84]:List UInt8).toArray⟩,.string ⟨([83,85,77]:List UInt8).toArray⟩,.string ⟨([77,73,78]:List UInt8).toArray⟩,.string ⟨([77,65,88]:List UInt8).toArray⟩],rfl,rfl,⟨[.string ⟨([72,65,86,73,78,71]:List UInt8).toArray⟩],[.string ⟨([85,78,73,79,78]:List UInt8).toArray⟩,.string ⟨([65,76,76]:List UInt8).toArray⟩,.string ⟨([79,82,68,69,82]:List UInt8).toArray⟩,.string ⟨([76,73,77,73,84]:List UInt8).toArray⟩,.string ⟨([65,83,67]:List UInt8).toArray⟩,.string ⟨([68,69,83,67]:List UInt8).toArray⟩,.string ⟨([65,83]:List UInt8).toArray⟩,.string ⟨([65,78,68]:List UInt8).toArray⟩,.string ⟨([79,82]:List UInt8).toArray⟩,.string ⟨([78,79,84]:List UInt8).toArray⟩,.string ⟨([73,83]:List UInt8).toArray⟩,.string ⟨([78,85,76,76]:List UInt8).toArray⟩,.string ⟨([84,82,85,69]:List UInt8).toArray⟩,.string ⟨([70,65,76,83,69]:List UInt8).toArray⟩,.string ⟨([67,79,85,78,84]:List UInt8).toArray⟩,.string ⟨([83,85,77]:List UInt8).toArray⟩,.string ⟨([77,73,78]:List UInt8).toArray⟩,.string ⟨([77,65,88]:List UInt8).toArray⟩],rfl,rfl,⟨[.string ⟨([85,78,73,79,78]:List UInt8).toArray⟩],[.string ⟨([65,76,76]:List UInt8).toArray⟩,.string ⟨([79,82,68,69,82]:List UInt8).toArray⟩,.string ⟨([76,73,77,73,84]:List UInt8).toArray⟩,.string ⟨([65,83,67]:List UInt8).toArray⟩,.string ⟨([68,69,83,67]:List UInt8).toArray⟩,.string ⟨([65,83]:List UInt8).toArray⟩,.string ⟨([65,78,68]:List UInt8).toArray⟩,.string ⟨([79,82]:List UInt8).toArray⟩,.string ⟨([78,79,84]:List UInt8).toArray⟩,.string ⟨([73,83]:List UInt8).toArray⟩,.string ⟨([78,85,76,76]:List UInt8).toArray⟩,.string ⟨([84,82,85,69]:List UInt8).toArray⟩,.string ⟨([70,65,76,83,69]:List UInt8).toArray⟩,.string ⟨([67,79,85,78,84]:List UInt8).toArray⟩,.string ⟨([83,85,77]:List UInt8).toArray⟩,.string ⟨([77,73,78]:List UInt8).toArray⟩,.string ⟨([77,65,88]:List UInt8).toArray⟩],rfl,rfl,⟨[.string ⟨([65,76,76]:List UInt8).toArray⟩],[.string ⟨([79,82,68,69,82]:List UInt8).toArray⟩,.string ⟨([76,73,77,73,84]:List UInt8).toArray⟩,.string ⟨([65,83,67]:List UInt8).toArray⟩,.string ⟨([68,69,83,67]:List UInt8).toArray⟩,.string ⟨([65,83]:List UInt8).toArray⟩,.string ⟨([65,78,68]:List UInt8).toArray⟩,.string ⟨([79,82]:List UInt8).toArray⟩,.string ⟨([78,79,84]:List UInt8).toArray⟩,.string ⟨([73,83]:List UInt8).toArray⟩,.string ⟨([78,85,76,76]:List UInt8).toArray⟩,.string ⟨([84,82,85,69]:List UInt8).toArray⟩,.string ⟨([70,65,76,83,69]:List UInt8).toArray⟩,.string ⟨([67,79,85,78,84]:List UInt8).toArray⟩,.string ⟨([83,85,77]:List UInt8).toArray⟩,.string ⟨([77,73,78]:List UInt8).toArray⟩,.string ⟨([77,65,88]:List UInt8).toArray⟩],rfl,rfl,⟨[.string ⟨([79,82,68,69,82]:List UInt8).toArray⟩],[.string ⟨([76,73,77,73,84]:List UInt8).toArray⟩,.string ⟨([65,83,67]:List UInt8).toArray⟩,.string ⟨([68,69,83,67]:List UInt8).toArray⟩,.string ⟨([65,83]:List UInt8).toArray⟩,.string ⟨([65,78,68]:List UInt8).toArray⟩,.string ⟨([79,82]:List UInt8).toArray⟩,.string ⟨([78,79,84]:List UInt8).toArray⟩,.string ⟨([73,83]:List UInt8).toArray⟩,.string ⟨([78,85,76,76]:List UInt8).toArray⟩,.string ⟨([84,82,85,69]:List UInt8).toArray⟩,.string ⟨([70,65,76,83,69]:List UInt8).toArray⟩,.string ⟨([67,79,85,78,84]:List UInt8).toArray⟩,.string ⟨([83,85,77]:List UInt8).toArray⟩,.string ⟨([77,73,78]:List UInt8).toArray⟩,.string ⟨([77,65,88]:List UInt8).toArray⟩],rfl,rfl,⟨[.string ⟨([76,73,77,73,84]:List UInt8).toArray⟩],[.string ⟨([65,83,67]:List UInt8).toArray⟩,.string ⟨([68,69,83,67]:List UInt8).toArray⟩,.string ⟨([65,83]:List UInt8).toArray⟩,.string ⟨([65,78,68]:List UInt8).toArray⟩,.string ⟨([79,82]:List UInt8).toArray⟩,.string ⟨([78,79,84]:List UInt8).toArray⟩,.string ⟨([73,83]:List UInt8).toArray⟩,.string ⟨([78,85,76,76]:List UInt8).toArray⟩,.string ⟨([84,82,85,69]:List UInt8).toArray⟩,.string ⟨([70,65,76,83,69]:List UInt8).toArray⟩,.string ⟨([67,79,85,78,84]:List UInt8).toArray⟩,.string ⟨([83,85,77]:List UInt8).toArray⟩,.string ⟨([77,73,78]:List UInt8).toArray⟩,.string ⟨([77,65,88]:List UInt8).toArray⟩],rfl,rfl,⟨[.string ⟨([65,83,67]:List UInt8).toArray⟩],[.string ⟨([68,69,83,67]:List UInt8).toArray⟩,.string ⟨([65,83]:List UInt8).toArray⟩,.string ⟨([65,78,68]:List UInt8).toArray⟩,.string ⟨([79,82]:List UInt8).toArray⟩,.string ⟨([78,79,84]:List UInt8).toArray⟩,.string ⟨([73,83]:List UInt8).toArray⟩,.string ⟨([78,85,76,76]:List UInt8).toArray⟩,.string ⟨([84,82,85,69]:List UInt8).toArray⟩,.string ⟨([70,65,76,83,69]:List UInt8).toArray⟩,.string ⟨([67,79,85,78,84]:List UInt8).toArray⟩,.string ⟨([83,85,77]:List UInt8).toArray⟩,.string ⟨([77,73,78]:List UInt8).toArray⟩,.string ⟨([77,65,88]:List UInt8).toArray⟩],rfl,rfl,⟨[.string ⟨([68,69,83,67]:List UInt8).toArray⟩],[.string ⟨([65,83]:List UInt8).toArray⟩,.string ⟨([65,78,68]:List UInt8).toArray⟩,.string ⟨([79,82]:List UInt8).toArray⟩,.string ⟨([78,79,84]:List UInt8).toArray⟩,.string ⟨([73,83]:List UInt8).toArray⟩,.string ⟨([78,85,76,76]:List UInt8).toArray⟩,.string ⟨([84,82,85,69]:List UInt8).toArray⟩,.string ⟨([70,65,76,83,69]:List UInt8).toArray⟩,.string ⟨([67,79,85,78,84]:List UInt8).toArray⟩,.string ⟨([83,85,77]:List UInt8).toArray⟩,.string ⟨([77,73,78]:List UInt8).toArray⟩,.string ⟨([77,65,88]:List UInt8).toArray⟩],rfl,rfl,⟨[.string ⟨([65,83]:List UInt8).toArray⟩],[.string ⟨([65,78,68]:List UInt8).toArray⟩,.string ⟨([79,82]:List UInt8).toArray⟩,.string ⟨([78,79,84]:List UInt8).toArray⟩,.string ⟨([73,83]:List UInt8).toArray⟩,.string ⟨([78,85,76,76]:List UInt8).toArray⟩,.string ⟨([84,82,85,69]:List UInt8).toArray⟩,.string ⟨([70,65,76,83,69]:List UInt8).toArray⟩,.string ⟨([67,79,85,78,84]:List UInt8).toArray⟩,.string ⟨([83,85,77]:List UInt8).toArray⟩,.string ⟨([77,73,78]:List UInt8).toArray⟩,.string ⟨([77,65,88]:List UInt8).toArray⟩],rfl,rfl,⟨[.string ⟨([65,78,68]:List UInt8).toArray⟩],[.string ⟨([79,82]:List UInt8).toArray⟩,.string ⟨([78,79,84]:List UInt8).toArray⟩,.string ⟨([73,83]:List UInt8).toArray⟩,.string ⟨([78,85,76,76]:List UInt8).toArray⟩,.string ⟨([84,82,85,69]:List UInt8).toArray⟩,.string ⟨([70,65,76,83,69]:List UInt8).toArray⟩,.string ⟨([67,79,85,78,84]:List UInt8).toArray⟩,.string ⟨([83,85,77]:List UInt8).toArray⟩,.string ⟨([77,73,78]:List UInt8).toArray⟩,.string ⟨([77,65,88]:List UInt8).toArray⟩],rfl,rfl,⟨[.string ⟨([79,82]:List UInt8).toArray⟩],[.string ⟨([78,79,84]:List UInt8).toArray⟩,.string ⟨([73,83]:List UInt8).toArray⟩,.string ⟨([78,85,76,76]:List UInt8).toArray⟩,.string ⟨([84,82,85,69]:List UInt8).toArray⟩,.string ⟨([70,65,76,83,69]:List UInt8).toArray⟩,.string ⟨([67,79,85,78,84]:List UInt8).toArray⟩,.string ⟨([83,85,77]:List UInt8).toArray⟩,.string ⟨([77,73,78]:List UInt8).toArray⟩,.string ⟨([77,65,88]:List UInt8).toArray⟩],rfl,rfl,⟨[.string ⟨([78,79,84]:List UInt8).toArray⟩],[.string ⟨([73,83]:List UInt8).toArray⟩,.string ⟨([78,85,76,76]:List UInt8).toArray⟩,.string ⟨([84,82,85,69]:List UInt8).toArray⟩,.string ⟨([70,65,76,83,69]:List UInt8).toArray⟩,.string ⟨([67,79,85,78,84]:List UInt8).toArray⟩,.string ⟨([83,85,77]:List UInt8).toArray⟩,.string ⟨([77,73,78]:List UInt8).toArray⟩,.string ⟨([77,65,88]:List UInt8).toArray⟩],rfl,rfl,⟨[.string ⟨([73,83]:List UInt8).toArray⟩],[.string ⟨([78,85,76,76]:List UInt8).toArray⟩,.string ⟨([84,82,85,69]:List UInt8).toArray⟩,.string ⟨([70,65,76,83,69]:List UInt8).toArray⟩,.string ⟨([67,79,85,78,84]:List UInt8).toArray⟩,.string ⟨([83,85,77]:List UInt8).toArray⟩,.string ⟨([77,73,78]:List UInt8).toArray⟩,.string ⟨([77,65,88]:List UInt8).toArray⟩],rfl,rfl,⟨[.string ⟨([78,85,76,76]:List UInt8).toArray⟩],[.string ⟨([84,82,85,69]:List UInt8).toArray⟩,.string ⟨([70,65,76,83,69]:List UInt8).toArray⟩,.string ⟨([67,79,85,78,84]:List UInt8).toArray⟩,.string ⟨([83,85,77]:List UInt8).toArray⟩,.string ⟨([77,73,78]:List UInt8).toArray⟩,.string ⟨([77,65,88]:List UInt8).toArray⟩],rfl,rfl,⟨[.string ⟨([84,82,85,69]:List UInt8).toArray⟩],[.string ⟨([70,65,76,83,69]:List UInt8).toArray⟩,.string ⟨([67,79,85,78,84]:List UInt8).toArray⟩,.string ⟨([83,85,77]:List UInt8).toArray⟩,.string ⟨([77,73,78]:List UInt8).toArray⟩,.string ⟨([77,65,88]:List UInt8).toArray⟩],rfl,rfl,⟨[.string ⟨([70,65,76,83,69]:List UInt8).toArray⟩],[.string ⟨([67,79,85,78,84]:List UInt8).toArray⟩,.string ⟨([83,85,77]:List UInt8).toArray⟩,.string ⟨([77,73,78]:List UInt8).toArray⟩,.string ⟨([77,65,88]:List UInt8).toArray⟩],rfl,rfl,⟨[.string ⟨([67,79,85,78,84]:List UInt8).toArray⟩],[.string ⟨([83,85,77]:List UInt8).toArray⟩,.string ⟨([77,73,78]:List UInt8).toArray⟩,.string ⟨([77,65,88]:List UInt8).toArray⟩],rfl,rfl,⟨[.string ⟨([83,85,77]:List UInt8).toArray⟩],[.string ⟨([77,73,78]:List UInt8).toArray⟩,.string ⟨([77,65,88]:List UInt8).toArray⟩],rfl,rfl,⟨[.string ⟨([77,73,78]:List UInt8).toArray⟩],[.string ⟨([77,65,88]:List UInt8).toArray⟩],rfl,rfl,⟨[.string ⟨([77,65,88]:List UInt8).toArray⟩],[],rfl,rfl,(rfl:_=[])⟩⟩⟩⟩⟩⟩⟩⟩⟩⟩⟩⟩⟩⟩⟩⟩⟩⟩⟩⟩⟩⟩⟩⟩⟩⟩⟩⟩⟩

end Go.Proofs.YtnmjbolollcokaaGreatDoor

