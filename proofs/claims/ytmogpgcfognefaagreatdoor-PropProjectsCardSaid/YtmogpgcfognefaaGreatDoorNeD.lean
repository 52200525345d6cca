/- co of this claim: D. -/
import Derived.Test.YtmogpgcfognefaaGreatDoorNeV4
set_option linter.all false
namespace Go.Proofs.YtmogpgcfognefaaGreatDoor
open Go

structure M where
 Kind:Int
 N:Int
 U:Int
 S:im
 deriving DecidableEq,Inhabited
def af:Rp M:=pt (cI (rI .i64) (cI (rI .i64) (cI (rI .u64) rS))) (fun x=>(x.Kind,x.N,x.U,x.S))
theorem ee:ka af 0 (rI .i64) (fun x=>x.Kind):=(cV bY)
theorem oD:gm af 0 (rI .i64) (fun x y=>{x with Kind:=y}):=cr cT (fun _ _=>rfl)
theorem kP:ka af 1 (rI .i64) (fun x=>x.N):=(cV (aG bY rfl))
theorem qL:gm af 1 (rI .i64) (fun x y=>{x with N:=y}):=cr (bG cT rfl) (fun _ _=>rfl)
theorem B4:ka af 2 (rI .u64) (fun x=>x.U):=(cV (aG (aG bY rfl) rfl))
theorem HI:gm af 2 (rI .u64) (fun x y=>{x with U:=y}):=cr (bG (bG cT rfl) rfl) (fun _ _=>rfl)
theorem oO:ka af 3 rS (fun x=>x.S):=(aG (aG (aG bY rfl) rfl) rfl)
theorem HH:gm af 3 rS (fun x y=>{x with S:=y}):=cr (bG (bG (bG ap rfl) rfl) rfl) (fun _ _=>rfl)
theorem ca: ∀S,af.rc S [.int .i64 0,.int .i64 0,.int .u64 0,.string ⟨#[]⟩] ((⟨(0:Int),(0:Int),(0:Int),[]⟩:M)):=fun _=>⟨[.int .i64 0],[.int .i64 0,.int .u64 0,.string ⟨#[]⟩],rfl,rfl,⟨[.int .i64 0],[.int .u64 0,.string ⟨#[]⟩],rfl,rfl,⟨[.int .u64 0],[.string ⟨#[]⟩],rfl,rfl,rfl⟩⟩⟩
structure bc where
 Tag:Int
 L:Int
 R:Int
 Col:Int
 Value:M
 deriving DecidableEq,Inhabited
def aQ:Rp bc:=pt (cI (rI .i64) (cI (rI .i64) (cI (rI .i64) (cI (rI .i64) af)))) (fun x=>(x.Tag,x.L,x.R,x.Col,x.Value))
theorem ef:ka aQ 0 (rI .i64) (fun x=>x.Tag):=(cV bY)
theorem Bw:gm aQ 0 (rI .i64) (fun x y=>{x with Tag:=y}):=cr cT (fun _ _=>rfl)
theorem oU:ka aQ 1 (rI .i64) (fun x=>x.L):=(cV (aG bY rfl))
theorem te:gm aQ 1 (rI .i64) (fun x y=>{x with L:=y}):=cr (bG cT rfl) (fun _ _=>rfl)
theorem oT:ka aQ 2 (rI .i64) (fun x=>x.R):=(cV (aG (aG bY rfl) rfl))
theorem td:gm aQ 2 (rI .i64) (fun x y=>{x with R:=y}):=cr (bG (bG cT rfl) rfl) (fun _ _=>rfl)
theorem iG:ka aQ 3 (rI .i64) (fun x=>x.Col):=(cV (aG (aG (aG bY rfl) rfl) rfl))
theorem HO:gm aQ 3 (rI .i64) (fun x y=>{x with Col:=y}):=cr (bG (bG (bG cT rfl) rfl) rfl) (fun _ _=>rfl)
theorem rb:ka aQ 4 af (fun x=>x.Value):=(aG (aG (aG (aG bY rfl) rfl) rfl) rfl)
theorem HN:gm aQ 4 af (fun x y=>{x with Value:=y}):=cr (bG (bG (bG (bG ap rfl) rfl) rfl) rfl) (fun _ _=>rfl)
theorem k8: ∀S,aQ.rc S [.int .i64 0,.int .i64 0,.int .i64 0,.int .i64 0,.int .i64 0,.int .i64 0,.int .u64 0,.string ⟨#[]⟩] ((⟨(0:Int),(0:Int),(0:Int),(0:Int),(⟨(0:Int),(0:Int),(0:Int),[]⟩:M)⟩:bc)):=fun _=>⟨[.int .i64 0],[.int .i64 0,.int .i64 0,.int .i64 0,.int .i64 0,.int .i64 0,.int .u64 0,.string ⟨#[]⟩],rfl,rfl,⟨[.int .i64 0],[.int .i64 0,.int .i64 0,.int .i64 0,.int .i64 0,.int .u64 0,.string ⟨#[]⟩],rfl,rfl,⟨[.int .i64 0],[.int .i64 0,.int .i64 0,.int .i64 0,.int .u64 0,.string ⟨#[]⟩],rfl,rfl,⟨[.int .i64 0],[.int .i64 0,.int .i64 0,.int .u64 0,.string ⟨#[]⟩],rfl,rfl,ca _⟩⟩⟩⟩
structure bf where
 Nodes:(List bc)
 deriving DecidableEq,Inhabited
def bn:Rp bf:=pt (fz aQ) (fun x=>(x.Nodes))
theorem dw:ka bn 0 (fz aQ) (fun x=>x.Nodes):=bY
theorem nJ: ∀S,bn.rc S [.slice none 0 0] ((⟨[]⟩:bf)):=fun _=>⟨none,0,rfl,gp _,jJ _,.inl rfl⟩
structure jx where
 Tag:Int
 Arg:bf
 deriving DecidableEq,Inhabited
def fY:Rp jx:=pt (cI (rI .i64) bn) (fun x=>(x.Tag,x.Arg))
theorem lk:ka fY 0 (rI .i64) (fun x=>x.Tag):=(cV bY)
theorem u5:ka fY 1 bn (fun x=>x.Arg):=(aG bY rfl)
theorem yQ: ∀S,fY.rc S [.int .i64 0,.slice none 0 0] ((⟨(0:Int),(⟨[]⟩:bf)⟩:jx)):=fun _=>⟨[.int .i64 0],[.slice none 0 0],rfl,rfl,nJ _⟩
structure lN where
 Col:Int
 Desc:Bool
 deriving DecidableEq,Inhabited
def l0:Rp lN:=pt (cI (rI .i64) rB) (fun x=>(x.Col,x.Desc))
theorem B6:ka l0 0 (rI .i64) (fun x=>x.Col):=(cV bY)
theorem MZ:ka l0 1 rB (fun x=>x.Desc):=(aG bY rfl)
structure aK where
 Op:Int
 A:Int
 B:Int
 Table:Int
 Kinds:(List Int)
 Left:Bool
 Cond:bf
 Keys:(List Int)
 Aggs:(List jx)
 Items:(List bf)
 Order:(List lN)
 Limit:Int
 deriving DecidableEq,Inhabited
def aW:Rp aK:=pt (cI (rI .i64) (cI (rI .i64) (cI (rI .i64) (cI (rI .i64) (cI (fz (rI .i64)) (cI rB (cI bn (cI (fz (rI .i64)) (cI (fz fY) (cI (fz bn) (cI (fz l0) (rI .i64)))))))))))) (fun x=>(x.Op,x.A,x.B,x.Table,x.Kinds,x.Left,x.Cond,x.Keys,x.Aggs,x.Items,x.Order,x.Limit))
theorem da:ka aW 0 (rI .i64) (fun x=>x.Op):=(cV bY)
theorem qO:gm aW 0 (rI .i64) (fun x y=>{x with Op:=y}):=cr cT (fun _ _=>rfl)
theorem ml:ka aW 1 (rI .i64) (fun x=>x.A):=(cV (aG bY rfl))
theorem qN:gm aW 1 (rI .i64) (fun x y=>{x with A:=y}):=cr (bG cT rfl) (fun _ _=>rfl)
theorem oQ:ka aW 2 (rI .i64) (fun x=>x.B):=(cV (aG (aG bY rfl) rfl))
theorem qM:gm aW 2 (rI .i64) (fun x y=>{x with B:=y}):=cr (bG (bG cT rfl) rfl) (fun _ _=>rfl)
theorem iF:ka aW 3 (rI .i64) (fun x=>x.Table):=(cV (aG (aG (aG bY rfl) rfl) rfl))
theorem jp:ka aW 4 (fz (rI .i64)) (fun x=>x.Kinds):=(cV (aG (aG (aG (aG bY rfl) rfl) rfl) rfl))
theorem ta:gm aW 4 (fz (rI .i64)) (fun x y=>{x with Kinds:=y}):=cr (bG (bG (bG (bG cT rfl) rfl) rfl) rfl) (fun _ _=>rfl)
theorem Iq:ka aW 5 rB (fun x=>x.Left):=(cV (aG (aG (aG (aG (aG bY rfl) rfl) rfl) rfl) rfl))
theorem ra:ka aW 6 bn (fun x=>x.Cond):=(cV (aG (aG (aG (aG (aG (aG bY rfl) rfl) rfl) rfl) rfl) rfl))
theorem fZ:ka aW 7 (fz (rI .i64)) (fun x=>x.Keys):=(cV (aG (aG (aG (aG (aG (aG (aG bY rfl) rfl) rfl) rfl) rfl) rfl) rfl))
theorem gY:ka aW 8 (fz fY) (fun x=>x.Aggs):=(cV (aG (aG (aG (aG (aG (aG (aG (aG bY rfl) rfl) rfl) rfl) rfl) rfl) rfl) rfl))
theorem tE:ka aW 9 (fz bn) (fun x=>x.Items):=(cV (aG (aG (aG (aG (aG (aG (aG (aG (aG bY rfl) rfl) rfl) rfl) rfl) rfl) rfl) rfl) rfl))
theorem py:ka aW 10 (fz l0) (fun x=>x.Order):=(cV (aG (aG (aG (aG (aG (aG (aG (aG (aG (aG bY rfl) rfl) rfl) rfl) rfl) rfl) rfl) rfl) rfl) rfl))
theorem px:ka aW 11 (rI .i64) (fun x=>x.Limit):=(aG (aG (aG (aG (aG (aG (aG (aG (aG (aG (aG bY rfl) rfl) rfl) rfl) rfl) rfl) rfl) rfl) rfl) rfl) rfl)
theorem fE: ∀S,aW.rc S [.int .i64 0,.int .i64 0,.int .i64 0,.int .i64 0,.slice none 0 0,.bool false,.slice none 0 0,.slice none 0 0,.slice none 0 0,.slice none 0 0,.slice none 0 0,.int .i64 0] ((⟨(0:Int),(0:Int),(0:Int),(0:Int),[],false,(⟨[]⟩:bf),[],[],[],[],(0:Int)⟩:aK)):=fun _=>⟨[.int .i64 0],[.int .i64 0,.int .i64 0,.int .i64 0,.slice none 0 0,.bool false,.slice none 0 0,.slice none 0 0,.slice none 0 0,.slice none 0 0,.slice none 0 0,.int .i64 0],rfl,rfl,⟨[.int .i64 0],[.int .i64 0,.int .i64 0,.slice none 0 0,.bool false,.slice none 0 0,.slice none 0 0,.slice none 0 0,.slice none 0 0,.slice none 0 0,.int .i64 0],rfl,rfl,⟨[.int .i64 0],[.int .i64 0,.slice none 0 0,.bool false,.slice none 0 0,.slice none 0 0,.slice none 0 0,.slice none 0 0,.slice none 0 0,.int .i64 0],rfl,rfl,⟨[.int .i64 0],[.slice none 0 0,.bool false,.slice none 0 0,.slice none 0 0,.slice none 0 0,.slice none 0 0,.slice none 0 0,.int .i64 0],rfl,rfl,⟨[.slice none 0 0],[.bool false,.slice none 0 0,.slice none 0 0,.slice none 0 0,.slice none 0 0,.slice none 0 0,.int .i64 0],rfl,⟨none,0,rfl,gp _,jJ _,.inl rfl⟩,⟨[.bool false],[.slice none 0 0,.slice none 0 0,.slice none 0 0,.slice none 0 0,.slice none 0 0,.int .i64 0],rfl,rfl,⟨[.slice none 0 0],[.slice none 0 0,.slice none 0 0,.slice none 0 0,.slice none 0 0,.int .i64 0],rfl,nJ _,⟨[.slice none 0 0],[.slice none 0 0,.slice none 0 0,.slice none 0 0,.int .i64 0],rfl,⟨none,0,rfl,gp _,jJ _,.inl rfl⟩,⟨[.slice none 0 0],[.slice none 0 0,.slice none 0 0,.int .i64 0],rfl,⟨none,0,rfl,gp _,jJ _,.inl rfl⟩,⟨[.slice none 0 0],[.slice none 0 0,.int .i64 0],rfl,⟨none,0,rfl,gp _,jJ _,.inl rfl⟩,⟨[.slice none 0 0],[.int .i64 0],rfl,⟨none,0,rfl,gp _,jJ _,.inl rfl⟩,rfl⟩⟩⟩⟩⟩⟩⟩⟩⟩⟩⟩
structure al where
 nodes:(List aK)
 kinds:(List (List Int))
 open_:(List Int)
 n:aK
 a_:(List Int)
 b:(List Int)
 result:(List Int)
 deriving DecidableEq,Inhabited
def be:Rp al:=pt (cI (fz aW) (cI (fz (fz (rI .i64))) (cI (Ox:Rp (List Int)) (cI aW (cI (fz (rI .i64)) (cI (fz (rI .i64)) (fz (rI .i64)))))))) (fun x=>(x.nodes,x.kinds,x.open_,x.n,x.a_,x.b,x.result))
theorem zg:ka be 0 (fz aW) (fun x=>x.nodes):=(cV bY)
theorem KN:gm be 0 (fz aW) (fun x y=>{x with nodes:=y}):=cr cT (fun _ _=>rfl)
theorem KM:gm be 1 (fz (fz (rI .i64))) (fun x y=>{x with kinds:=y}):=cr (bG cT rfl) (fun _ _=>rfl)
theorem KL:gm be 2 (Ox:Rp (List Int)) (fun x y=>{x with open_:=y}):=cr (bG (bG cT rfl) rfl) (fun _ _=>rfl)
theorem eH:ka be 3 aW (fun x=>x.n):=(cV (aG (aG (aG bY rfl) rfl) rfl))
theorem KK:gm be 3 aW (fun x y=>{x with n:=y}):=cr (bG (bG (bG cT rfl) rfl) rfl) (fun _ _=>rfl)
theorem mB:ka be 15 (fz (rI .i64)) (fun x=>x.a_):=(cV (aG (aG (aG (aG bY rfl) rfl) rfl) rfl))
theorem Dw:gm be 15 (fz (rI .i64)) (fun x y=>{x with a_:=y}):=cr (bG (bG (bG (bG cT rfl) rfl) rfl) rfl) (fun _ _=>rfl)
theorem D2:ka be 16 (fz (rI .i64)) (fun x=>x.b):=(cV (aG (aG (aG (aG (aG bY rfl) rfl) rfl) rfl) rfl))
theorem Dv:gm be 16 (fz (rI .i64)) (fun x y=>{x with b:=y}):=cr (bG (bG (bG (bG (bG cT rfl) rfl) rfl) rfl) rfl) (fun _ _=>rfl)
theorem zf:ka be 17 (fz (rI .i64)) (fun x=>x.result):=(aG (aG (aG (aG (aG (aG bY rfl) rfl) rfl) rfl) rfl) rfl)
theorem qp:gm be 17 (fz (rI .i64)) (fun x y=>{x with result:=y}):=cr (bG (bG (bG (bG (bG (bG ap rfl) rfl) rfl) rfl) rfl) rfl) (fun _ _=>rfl)
theorem N0: ∀S,be.rc S [.slice none 0 0,.slice none 0 0,.slice none 0 0,.int .i64 0,.int .i64 0,.int .i64 0,.int .i64 0,.slice none 0 0,.bool false,.slice none 0 0,.slice none 0 0,.slice none 0 0,.slice none 0 0,.slice none 0 0,.int .i64 0,.slice none 0 0,.slice none 0 0,.slice none 0 0] ((⟨[],[],[],(⟨(0:Int),(0:Int),(0:Int),(0:Int),[],false,(⟨[]⟩:bf),[],[],[],[],(0:Int)⟩:aK),[],[],[]⟩:al)):=fun _=>⟨[.slice none 0 0],[.slice none 0 0,.slice none 0 0,.int .i64 0,.int .i64 0,.int .i64 0,.int .i64 0,.slice none 0 0,.bool false,.slice none 0 0,.slice none 0 0,.slice none 0 0,.slice none 0 0,.slice none 0 0,.int .i64 0,.slice none 0 0,.slice none 0 0,.slice none 0 0],rfl,⟨none,0,rfl,gp _,jJ _,.inl rfl⟩,⟨[.slice none 0 0],[.slice none 0 0,.int .i64 0,.int .i64 0,.int .i64 0,.int .i64 0,.slice none 0 0,.bool false,.slice none 0 0,.slice none 0 0,.slice none 0 0,.slice none 0 0,.slice none 0 0,.int .i64 0,.slice none 0 0,.slice none 0 0,.slice none 0 0],rfl,⟨none,0,rfl,gp _,jJ _,.inl rfl⟩,⟨[.slice none 0 0],[.int .i64 0,.int .i64 0,.int .i64 0,.int .i64 0,.slice none 0 0,.bool false,.slice none 0 0,.slice none 0 0,.slice none 0 0,.slice none 0 0,.slice none 0 0,.int .i64 0,.slice none 0 0,.slice none 0 0,.slice none 0 0],rfl,⟨_,rfl,rfl⟩,⟨[.int .i64 0,.int .i64 0,.int .i64 0,.int .i64 0,.slice none 0 0,.bool false,.slice none 0 0,.slice none 0 0,.slice none 0 0,.slice none 0 0,.slice none 0 0,.int .i64 0],[.slice none 0 0,.slice none 0 0,.slice none 0 0],rfl,fE _,⟨[.slice none 0 0],[.slice none 0 0,.slice none 0 0],rfl,⟨none,0,rfl,gp _,jJ _,.inl rfl⟩,⟨[.slice none 0 0],[.slice none 0 0],rfl,⟨none,0,rfl,gp _,jJ _,.inl rfl⟩,⟨none,0,rfl,gp _,jJ _,.inl rfl⟩⟩⟩⟩⟩⟩⟩
structure bw where
 Name:im
 Kind:Int
 deriving DecidableEq,Inhabited
def cB:Rp bw:=pt (cI rS (rI .i64)) (fun x=>(x.Name,x.Kind))
theorem GP:ka cB 0 rS (fun x=>x.Name):=(cV bY)
theorem uC:gm cB 0 rS (fun x y=>{x with Name:=y}):=cr cT (fun _ _=>rfl)
theorem z8:ka cB 1 (rI .i64) (fun x=>x.Kind):=(aG bY rfl)
theorem uB:gm cB 1 (rI .i64) (fun x y=>{x with Kind:=y}):=cr (bG ap rfl) (fun _ _=>rfl)
theorem qm: ∀S,cB.rc S [.string ⟨#[]⟩,.int .i64 0] ((⟨[],(0:Int)⟩:bw)):=fun _=>⟨[.string ⟨#[]⟩],[.int .i64 0],rfl,rfl,rfl⟩
structure CB where
 word:im
 kind:Int
 deriving DecidableEq,Inhabited
def tf:Rp CB:=pt (cI rS (rI .i64)) (fun x=>(x.word,x.kind))
theorem Lt:ka tf 0 rS (fun x=>x.word):=(cV bY)
theorem Ls:ka tf 1 (rI .i64) (fun x=>x.kind):=(aG bY rfl)
theorem N1: ∀S,tf.rc S [.string ⟨#[]⟩,.int .i64 0] ((⟨[],(0:Int)⟩:CB)):=fun _=>⟨[.string ⟨#[]⟩],[.int .i64 0],rfl,rfl,rfl⟩
structure bu where
 Name:im
 Columns:(List bw)
 Keys:(List Int)
 deriving DecidableEq,Inhabited
def dO:Rp bu:=pt (cI rS (cI (fz cB) (fz (rI .i64)))) (fun x=>(x.Name,x.Columns,x.Keys))
theorem B5:ka dO 0 rS (fun x=>x.Name):=(cV bY)
theorem HM:gm dO 0 rS (fun x y=>{x with Name:=y}):=cr cT (fun _ _=>rfl)
theorem oP:ka dO 1 (fz cB) (fun x=>x.Columns):=(cV (aG bY rfl))
theorem HK:gm dO 1 (fz cB) (fun x y=>{x with Columns:=y}):=cr (bG cT rfl) (fun _ _=>rfl)
theorem w7:ka dO 2 (fz (rI .i64)) (fun x=>x.Keys):=(aG (aG bY rfl) rfl)
theorem HJ:gm dO 2 (fz (rI .i64)) (fun x y=>{x with Keys:=y}):=cr (bG (bG ap rfl) rfl) (fun _ _=>rfl)
theorem FU: ∀S,dO.rc S [.string ⟨#[]⟩,.slice none 0 0,.slice none 0 0] ((⟨[],[],[]⟩:bu)):=fun _=>⟨[.string ⟨#[]⟩],[.slice none 0 0,.slice none 0 0],rfl,rfl,⟨[.slice none 0 0],[.slice none 0 0],rfl,⟨none,0,rfl,gp _,jJ _,.inl rfl⟩,⟨none,0,rfl,gp _,jJ _,.inl rfl⟩⟩⟩
structure cn where
 Tables:(List bu)
 deriving DecidableEq,Inhabited
def cH:Rp cn:=pt (fz dO) (fun x=>(x.Tables))
theorem mD:ka cH 0 (fz dO) (fun x=>x.Tables):=bY
theorem xB:gm cH 0 (fz dO) (fun x y=>{x with Tables:=y}):=cr ap (fun _ _=>rfl)
theorem m9: ∀S,cH.rc S [.slice none 0 0] ((⟨[]⟩:cn)):=fun _=>⟨none,0,rfl,gp _,jJ _,.inl rfl⟩
structure gJ where
 Nodes:(List aK)
 At:Int
 Way:Int
 Cols:(List Int)
 deriving DecidableEq,Inhabited
def cM:Rp gJ:=pt (cI (fz aW) (cI (rI .i64) (cI (rI .i64) (fz (rI .i64))))) (fun x=>(x.Nodes,x.At,x.Way,x.Cols))
theorem mC:ka cM 0 (fz aW) (fun x=>x.Nodes):=(cV bY)
theorem vB:gm cM 0 (fz aW) (fun x y=>{x with Nodes:=y}):=cr cT (fun _ _=>rfl)
theorem oS:ka cM 1 (rI .i64) (fun x=>x.At):=(cV (aG bY rfl))
theorem vA:gm cM 1 (rI .i64) (fun x y=>{x with At:=y}):=cr (bG cT rfl) (fun _ _=>rfl)
theorem ny:ka cM 2 (rI .i64) (fun x=>x.Way):=(cV (aG (aG bY rfl) rfl))
theorem vz:gm cM 2 (rI .i64) (fun x y=>{x with Way:=y}):=cr (bG (bG cT rfl) rfl) (fun _ _=>rfl)
theorem vR:ka cM 3 (fz (rI .i64)) (fun x=>x.Cols):=(aG (aG (aG bY rfl) rfl) rfl)
theorem nI: ∀S,cM.rc S [.slice none 0 0,.int .i64 0,.int .i64 0,.slice none 0 0] ((⟨[],(0:Int),(0:Int),[]⟩:gJ)):=fun _=>⟨[.slice none 0 0],[.int .i64 0,.int .i64 0,.slice none 0 0],rfl,⟨none,0,rfl,gp _,jJ _,.inl rfl⟩,⟨[.int .i64 0],[.int .i64 0,.slice none 0 0],rfl,rfl,⟨[.int .i64 0],[.slice none 0 0],rfl,rfl,⟨none,0,rfl,gp _,jJ _,.inl rfl⟩⟩⟩⟩
structure hJ where
 Frags:(List gJ)
 deriving DecidableEq,Inhabited
def dK:Rp hJ:=pt (fz cM) (fun x=>(x.Frags))
theorem gX:ka dK 0 (fz cM) (fun x=>x.Frags):=bY
theorem Dx:gm dK 0 (fz cM) (fun x y=>{x with Frags:=y}):=cr ap (fun _ _=>rfl)
theorem sZ: ∀S,dK.rc S [.slice none 0 0] ((⟨[]⟩:hJ)):=fun _=>⟨none,0,rfl,gp _,jJ _,.inl rfl⟩
structure cj where
 Plan:hJ
 c:cn
 kinds:(List (List (List Int)))
 deriving DecidableEq,Inhabited
def fX:Rp cj:=pt (cI dK (cI cH (fz (fz (fz (rI .i64)))))) (fun x=>(x.Plan,x.c,x.kinds))
theorem ij:ka fX 0 dK (fun x=>x.Plan):=(cV bY)
theorem tB:ka fX 1 cH (fun x=>x.c):=(cV (aG bY rfl))
theorem ya:ka fX 2 (fz (fz (fz (rI .i64)))) (fun x=>x.kinds):=(aG (aG bY rfl) rfl)
structure bE where
 Kind:Int
 Cols:(List Int)
 deriving DecidableEq,Inhabited
def bU:Rp bE:=pt (cI (rI .i64) (fz (rI .i64))) (fun x=>(x.Kind,x.Cols))
theorem gE:ka bU 0 (rI .i64) (fun x=>x.Kind):=(cV bY)
theorem nq:gm bU 0 (rI .i64) (fun x y=>{x with Kind:=y}):=cr cT (fun _ _=>rfl)
theorem jG:ka bU 1 (fz (rI .i64)) (fun x=>x.Cols):=(aG bY rfl)
theorem yY:gm bU 1 (fz (rI .i64)) (fun x y=>{x with Cols:=y}):=cr (bG ap rfl) (fun _ _=>rfl)
theorem iQ: ∀S,bU.rc S [.int .i64 0,.slice none 0 0] ((⟨(0:Int),[]⟩:bE)):=fun _=>⟨[.int .i64 0],[.slice none 0 0],rfl,rfl,⟨none,0,rfl,gp _,jJ _,.inl rfl⟩⟩
structure cK where
 checker:(Option cj)
 n:aK
 a_:bE
 b:bE
 deriving DecidableEq,Inhabited
def j8:Rp cK:=pt (cI (LV fX) (cI aW (cI bU bU))) (fun x=>(x.checker,x.n,x.a_,x.b))
theorem D1:ka j8 0 (LV fX) (fun x=>x.checker):=(cV bY)
theorem KJ:gm j8 0 (LV fX) (fun x y=>{x with checker:=y}):=cr cT (fun _ _=>rfl)
theorem vQ:ka j8 1 aW (fun x=>x.n):=(cV (aG bY rfl))
theorem KI:gm j8 1 aW (fun x y=>{x with n:=y}):=cr (bG cT rfl) (fun _ _=>rfl)
theorem qr:ka j8 13 bU (fun x=>x.a_):=(cV (aG (aG bY rfl) rfl))
theorem KH:gm j8 13 bU (fun x y=>{x with a_:=y}):=cr (bG (bG cT rfl) rfl) (fun _ _=>rfl)
theorem D0:ka j8 15 bU (fun x=>x.b):=(aG (aG (aG bY rfl) rfl) rfl)
theorem KG:gm j8 15 bU (fun x y=>{x with b:=y}):=cr (bG (bG (bG ap rfl) rfl) rfl) (fun _ _=>rfl)
theorem NZ: ∀S,j8.rc S [.pointer none,.int .i64 0,.int .i64 0,.int .i64 0,.int .i64 0,.slice none 0 0,.bool false,.slice none 0 0,.slice none 0 0,.slice none 0 0,.slice none 0 0,.slice none 0 0,.int .i64 0,.int .i64 0,.slice none 0 0,.int .i64 0,.slice none 0 0] ((⟨none,(⟨(0:Int),(0:Int),(0:Int),(0:Int),[],false,(⟨[]⟩:bf),[],[],[],[],(0:Int)⟩:aK),(⟨(0:Int),[]⟩:bE),(⟨(0:Int),[]⟩:bE)⟩:cK)):=fun _=>⟨[.pointer none],[.int .i64 0,.int .i64 0,.int .i64 0,.int .i64 0,.slice none 0 0,.bool false,.slice none 0 0,.slice none 0 0,.slice none 0 0,.slice none 0 0,.slice none 0 0,.int .i64 0,.int .i64 0,.slice none 0 0,.int .i64 0,.slice none 0 0],rfl,⟨_,rfl,rfl⟩,⟨[.int .i64 0,.int .i64 0,.int .i64 0,.int .i64 0,.slice none 0 0,.bool false,.slice none 0 0,.slice none 0 0,.slice none 0 0,.slice none 0 0,.slice none 0 0,.int .i64 0],[.int .i64 0,.slice none 0 0,.int .i64 0,.slice none 0 0],rfl,fE _,⟨[.int .i64 0,.slice none 0 0],[.int .i64 0,.slice none 0 0],rfl,iQ _,iQ _⟩⟩⟩
structure vt where
 Nodes:(List aK)
 deriving DecidableEq,Inhabited
structure Kh where
 Tables:(List (List (List M)))
 deriving DecidableEq,Inhabited
structure T4 where
 Tables:Value
structure Xm where
 Frags:Value
structure Cv where
 Name:im
 Columns:Value
 Keys:Value
def eU:Rp Cv:=pt (cI rS (cI rV rV)) (fun x=>(x.Name,x.Columns,x.Keys))
theorem Bv:gm eU 0 rS (fun x y=>{x with Name:=y}):=cr cT (fun _ _=>rfl)
theorem B3:ka eU 1 rV (fun x=>x.Columns):=(cV (aG bY rfl))
theorem B2:ka eU 2 rV (fun x=>x.Keys):=(aG (aG bY rfl) rfl)
def fV(y:bu)(v1:Value)(v2:Value):Cv:=⟨y.Name,v1,v2⟩
theorem xq: ∀S,eU.rc S [.string ⟨#[]⟩,.slice none 0 0,.slice none 0 0] (fV ((⟨[],[],[]⟩:bu)) (aw none 0 0) (aw none 0 0)):=fun _=>⟨[.string ⟨#[]⟩],[.slice none 0 0,.slice none 0 0],rfl,rfl,⟨[.slice none 0 0],[.slice none 0 0],rfl,⟨rfl,rfl⟩,⟨rfl,rfl⟩⟩⟩
structure J6 where
 Nodes:Value
def gC:Rp J6:=pt rV (fun x=>(x.Nodes))
theorem mj:ka gC 0 rV (fun x=>x.Nodes):=bY
theorem F8:gm gC 0 rV (fun x y=>{x with Nodes:=y}):=cr ap (fun _ _=>rfl)
def gV(y:bf)(v0:Value):J6:=⟨v0⟩
theorem yP: ∀S,gC.rc S [.slice none 0 0] (gV ((⟨[]⟩:bf)) (aw none 0 0)):=fun _=>⟨rfl,rfl⟩
structure Hm where
 Op:Int
 A:Int
 B:Int
 Table:Int
 Kinds:(List Int)
 Left:Bool
 Cond:bf
 Keys:Value
 Aggs:(List jx)
 Items:(List bf)
 Order:(List lN)
 Limit:Int
def dV:Rp Hm:=pt (cI (rI .i64) (cI (rI .i64) (cI (rI .i64) (cI (rI .i64) (cI (fz (rI .i64)) (cI rB (cI bn (cI rV (cI (fz fY) (cI (fz bn) (cI (fz l0) (rI .i64)))))))))))) (fun x=>(x.Op,x.A,x.B,x.Table,x.Kinds,x.Left,x.Cond,x.Keys,x.Aggs,x.Items,x.Order,x.Limit))
theorem EO:gm dV 0 (rI .i64) (fun x y=>{x with Op:=y}):=cr cT (fun _ _=>rfl)
theorem EN:gm dV 1 (rI .i64) (fun x y=>{x with A:=y}):=cr (bG cT rfl) (fun _ _=>rfl)
theorem EM:gm dV 2 (rI .i64) (fun x y=>{x with B:=y}):=cr (bG (bG cT rfl) rfl) (fun _ _=>rfl)
theorem qh:ka dV 7 rV (fun x=>x.Keys):=(cV (aG (aG (aG (aG (aG (aG (aG bY rfl) rfl) rfl) rfl) rfl) rfl) rfl))
def eN(y:aK)(v7:Value):Hm:=⟨y.Op,y.A,y.B,y.Table,y.Kinds,y.Left,y.Cond,v7,y.Aggs,y.Items,y.Order,y.Limit⟩
theorem Bi: ∀S,dV.rc S [.int .i64 0,.int .i64 0,.int .i64 0,.int .i64 0,.slice none 0 0,.bool false,.slice none 0 0,.slice none 0 0,.slice none 0 0,.slice none 0 0,.slice none 0 0,.int .i64 0] (eN ((⟨(0:Int),(0:Int),(0:Int),(0:Int),[],false,(⟨[]⟩:bf),[],[],[],[],(0:Int)⟩:aK)) (aw none 0 0)):=fun _=>⟨[.int .i64 0],[.int .i64 0,.int .i64 0,.int .i64 0,.slice none 0 0,.bool false,.slice none 0 0,.slice none 0 0,.slice none 0 0,.slice none 0 0,.slice none 0 0,.int .i64 0],rfl,rfl,⟨[.int .i64 0],[.int .i64 0,.int .i64 0,.slice none 0 0,.bool false,.slice none 0 0,.slice none 0 0,.slice none 0 0,.slice none 0 0,.slice none 0 0,.int .i64 0],rfl,rfl,⟨[.int .i64 0],[.int .i64 0,.slice none 0 0,.bool false,.slice none 0 0,.slice none 0 0,.slice none 0 0,.slice none 0 0,.slice none 0 0,.int .i64 0],rfl,rfl,⟨[.int .i64 0],[.slice none 0 0,.bool false,.slice none 0 0,.slice none 0 0,.slice none 0 0,.slice none 0 0,.slice none 0 0,.int .i64 0],rfl,rfl,⟨[.slice none 0 0],[.bool false,.slice none 0 0,.slice none 0 0,.slice none 0 0,.slice none 0 0,.slice none 0 0,.int .i64 0],rfl,⟨none,0,rfl,gp _,jJ _,.inl rfl⟩,⟨[.bool false],[.slice none 0 0,.slice none 0 0,.slice none 0 0,.slice none 0 0,.slice none 0 0,.int .i64 0],rfl,rfl,⟨[.slice none 0 0],[.slice none 0 0,.slice none 0 0,.slice none 0 0,.slice none 0 0,.int .i64 0],rfl,nJ _,⟨[.slice none 0 0],[.slice none 0 0,.slice none 0 0,.slice none 0 0,.int .i64 0],rfl,⟨rfl,rfl⟩,⟨[.slice none 0 0],[.slice none 0 0,.slice none 0 0,.int .i64 0],rfl,⟨none,0,rfl,gp _,jJ _,.inl rfl⟩,⟨[.slice none 0 0],[.slice none 0 0,.int .i64 0],rfl,⟨none,0,rfl,gp _,jJ _,.inl rfl⟩,⟨[.slice none 0 0],[.int .i64 0],rfl,⟨none,0,rfl,gp _,jJ _,.inl rfl⟩,rfl⟩⟩⟩⟩⟩⟩⟩⟩⟩⟩⟩
structure W0 where
 Op:Int
 A:Int
 B:Int
 Table:Int
 Kinds:(List Int)
 Left:Bool
 Cond:bf
 Keys:(List Int)
 Aggs:Value
 Items:(List bf)
 Order:(List lN)
 Limit:Int
structure T0 where
 Op:Int
 A:Int
 B:Int
 Table:Int
 Kinds:(List Int)
 Left:Bool
 Cond:bf
 Keys:(List Int)
 Aggs:Value
 Items:Value
 Order:(List lN)
 Limit:Int
structure Hl where
 Op:Int
 A:Int
 B:Int
 Table:Int
 Kinds:(List Int)
 Left:Bool
 Cond:bf
 Keys:(List Int)
 Aggs:(List jx)
 Items:Value
 Order:(List lN)
 Limit:Int
def dU:Rp Hl:=pt (cI (rI .i64) (cI (rI .i64) (cI (rI .i64) (cI (rI .i64) (cI (fz (rI .i64)) (cI rB (cI bn (cI (fz (rI .i64)) (cI (fz fY) (cI rV (cI (fz l0) (rI .i64)))))))))))) (fun x=>(x.Op,x.A,x.B,x.Table,x.Kinds,x.Left,x.Cond,x.Keys,x.Aggs,x.Items,x.Order,x.Limit))
theorem EL:gm dU 0 (rI .i64) (fun x y=>{x with Op:=y}):=cr cT (fun _ _=>rfl)
theorem EK:gm dU 1 (rI .i64) (fun x y=>{x with A:=y}):=cr (bG cT rfl) (fun _ _=>rfl)
theorem EJ:gm dU 2 (rI .i64) (fun x y=>{x with B:=y}):=cr (bG (bG cT rfl) rfl) (fun _ _=>rfl)
theorem qg:ka dU 9 rV (fun x=>x.Items):=(cV (aG (aG (aG (aG (aG (aG (aG (aG (aG bY rfl) rfl) rfl) rfl) rfl) rfl) rfl) rfl) rfl))
def eM(y:aK)(v9:Value):Hl:=⟨y.Op,y.A,y.B,y.Table,y.Kinds,y.Left,y.Cond,y.Keys,y.Aggs,v9,y.Order,y.Limit⟩
theorem Bh: ∀S,dU.rc S [.int .i64 0,.int .i64 0,.int .i64 0,.int .i64 0,.slice none 0 0,.bool false,.slice none 0 0,.slice none 0 0,.slice none 0 0,.slice none 0 0,.slice none 0 0,.int .i64 0] (eM ((⟨(0:Int),(0:Int),(0:Int),(0:Int),[],false,(⟨[]⟩:bf),[],[],[],[],(0:Int)⟩:aK)) (aw none 0 0)):=fun _=>⟨[.int .i64 0],[.int .i64 0,.int .i64 0,.int .i64 0,.slice none 0 0,.bool false,.slice none 0 0,.slice none 0 0,.slice none 0 0,.slice none 0 0,.slice none 0 0,.int .i64 0],rfl,rfl,⟨[.int .i64 0],[.int .i64 0,.int .i64 0,.slice none 0 0,.bool false,.slice none 0 0,.slice none 0 0,.slice none 0 0,.slice none 0 0,.slice none 0 0,.int .i64 0],rfl,rfl,⟨[.int .i64 0],[.int .i64 0,.slice none 0 0,.bool false,.slice none 0 0,.slice none 0 0,.slice none 0 0,.slice none 0 0,.slice none 0 0,.int .i64 0],rfl,rfl,⟨[.int .i64 0],[.slice none 0 0,.bool false,.slice none 0 0,.slice none 0 0,.slice none 0 0,.slice none 0 0,.slice none 0 0,.int .i64 0],rfl,rfl,⟨[.slice none 0 0],[.bool false,.slice none 0 0,.slice none 0 0,.slice none 0 0,.slice none 0 0,.slice none 0 0,.int .i64 0],rfl,⟨none,0,rfl,gp _,jJ _,.inl rfl⟩,⟨[.bool false],[.slice none 0 0,.slice none 0 0,.slice none 0 0,.slice none 0 0,.slice none 0 0,.int .i64 0],rfl,rfl,⟨[.slice none 0 0],[.slice none 0 0,.slice none 0 0,.slice none 0 0,.slice none 0 0,.int .i64 0],rfl,nJ _,⟨[.slice none 0 0],[.slice none 0 0,.slice none 0 0,.slice none 0 0,.int .i64 0],rfl,⟨none,0,rfl,gp _,jJ _,.inl rfl⟩,⟨[.slice none 0 0],[.slice none 0 0,.slice none 0 0,.int .i64 0],rfl,⟨none,0,rfl,gp _,jJ _,.inl rfl⟩,⟨[.slice none 0 0],[.slice none 0 0,.int .i64 0],rfl,⟨rfl,rfl⟩,⟨[.slice none 0 0],[.int .i64 0],rfl,⟨none,0,rfl,gp _,jJ _,.inl rfl⟩,rfl⟩⟩⟩⟩⟩⟩⟩⟩⟩⟩⟩
structure Xl where
 Kind:Int
 Cols:Value
structure J5 where
 nodes:(List aK)
 kinds:(List (List Int))
 open_:(List Int)
 n:aK
 a_:(List Int)
 b:(List Int)
 result:Value
def bC:Rp J5:=pt (cI (fz aW) (cI (fz (fz (rI .i64))) (cI (Ox:Rp (List Int)) (cI aW (cI (fz (rI .i64)) (cI (fz (rI .i64)) rV)))))) (fun x=>(x.nodes,x.kinds,x.open_,x.n,x.a_,x.b,x.result))
theorem u4:ka bC 3 aW (fun x=>x.n):=(cV (aG (aG (aG bY rfl) rfl) rfl))
theorem iZ:ka bC 15 (fz (rI .i64)) (fun x=>x.a_):=(cV (aG (aG (aG (aG bY rfl) rfl) rfl) rfl))
theorem GO:ka bC 16 (fz (rI .i64)) (fun x=>x.b):=(cV (aG (aG (aG (aG (aG bY rfl) rfl) rfl) rfl) rfl))
theorem jT:ka bC 17 rV (fun x=>x.result):=(aG (aG (aG (aG (aG (aG bY rfl) rfl) rfl) rfl) rfl) rfl)
def bI(y:al)(v6:Value):J5:=⟨y.nodes,y.kinds,y.open_,y.n,y.a_,y.b,v6⟩
structure Cu where
 Plan:hJ
 c:cn
 kinds:Value
def gu:Rp Cu:=pt (cI dK (cI cH rV)) (fun x=>(x.Plan,x.c,x.kinds))
theorem Bu:gm gu 0 dK (fun x y=>{x with Plan:=y}):=cr cT (fun _ _=>rfl)
theorem Bt:gm gu 1 cH (fun x y=>{x with c:=y}):=cr (bG cT rfl) (fun _ _=>rfl)
theorem B0:ka gu 2 rV (fun x=>x.kinds):=(aG (aG bY rfl) rfl)
def iU(y:cj)(v2:Value):Cu:=⟨y.Plan,y.c,v2⟩
theorem Et: ∀S,gu.rc S [.slice none 0 0,.slice none 0 0,.slice none 0 0] (iU ((⟨(⟨[]⟩:hJ),(⟨[]⟩:cn),[]⟩:cj)) (aw none 0 0)):=fun _=>⟨[.slice none 0 0],[.slice none 0 0,.slice none 0 0],rfl,sZ _,⟨[.slice none 0 0],[.slice none 0 0],rfl,m9 _,⟨rfl,rfl⟩⟩⟩
structure WZ where
 Nodes:Value
theorem yn{S:SH}{cs:List Value}{y:bu}{v1:Value}{v2:Value}{xs1:(List bw)}(k1:(fz cB).rc S [v1] xs1){xs2:(List Int)}(k2:(fz (rI .i64)).rc S [v2] xs2)(h:eU.rc S cs (fV y v1 v2)):dO.rc S cs ((⟨y.Name,xs1,xs2⟩:bu)):=by
 obtain⟨a0,b0,e0,h0,a1,b1,e1,h1,h2⟩:=h
 exact⟨a0,b0,e0,h0,a1,b1,e1,(by rw [h1.1];exact k1),(by rw [h2.1];exact k2)⟩
theorem vi{S:SH}{cs:List Value}{y:bf}{v0:Value}{xs0:(List bc)}(k0:(fz aQ).rc S [v0] xs0)(h:gC.rc S cs (gV y v0)):bn.rc S cs ((⟨xs0⟩:bf)):=by
 have h0:=h
 exact(by rw [h0.1];exact k0)
theorem AK{S:SH}{cs:List Value}{y:aK}{v7:Value}{xs7:(List Int)}(k7:(fz (rI .i64)).rc S [v7] xs7)(h:dV.rc S cs (eN y v7)):aW.rc S cs ((⟨y.Op,y.A,y.B,y.Table,y.Kinds,y.Left,y.Cond,xs7,y.Aggs,y.Items,y.Order,y.Limit⟩:aK)):=by
 obtain⟨a0,b0,e0,h0,a1,b1,e1,h1,a2,b2,e2,h2,a3,b3,e3,h3,a4,b4,e4,h4,a5,b5,e5,h5,a6,b6,e6,h6,a7,b7,e7,h7,a8,b8,e8,h8,a9,b9,e9,h9,a10,b10,e10,h10,h11⟩:=h
 exact⟨a0,b0,e0,h0,a1,b1,e1,h1,a2,b2,e2,h2,a3,b3,e3,h3,a4,b4,e4,h4,a5,b5,e5,h5,a6,b6,e6,h6,a7,b7,e7,(by rw [h7.1];exact k7),a8,b8,e8,h8,a9,b9,e9,h9,a10,b10,e10,h10,h11⟩
theorem AJ{S:SH}{cs:List Value}{y:aK}{v9:Value}{xs9:(List bf)}(k9:(fz bn).rc S [v9] xs9)(h:dU.rc S cs (eM y v9)):aW.rc S cs ((⟨y.Op,y.A,y.B,y.Table,y.Kinds,y.Left,y.Cond,y.Keys,y.Aggs,xs9,y.Order,y.Limit⟩:aK)):=by
 obtain⟨a0,b0,e0,h0,a1,b1,e1,h1,a2,b2,e2,h2,a3,b3,e3,h3,a4,b4,e4,h4,a5,b5,e5,h5,a6,b6,e6,h6,a7,b7,e7,h7,a8,b8,e8,h8,a9,b9,e9,h9,a10,b10,e10,h10,h11⟩:=h
 exact⟨a0,b0,e0,h0,a1,b1,e1,h1,a2,b2,e2,h2,a3,b3,e3,h3,a4,b4,e4,h4,a5,b5,e5,h5,a6,b6,e6,h6,a7,b7,e7,h7,a8,b8,e8,h8,a9,b9,e9,(by rw [h9.1];exact k9),a10,b10,e10,h10,h11⟩
theorem gz{S:SH}{cs:List Value}{y:al}{v6:Value}{xs6:(List Int)}(k6:(fz (rI .i64)).rc S [v6] xs6)(h:bC.rc S cs (bI y v6)):be.rc S cs ((⟨y.nodes,y.kinds,y.open_,y.n,y.a_,y.b,xs6⟩:al)):=by
 obtain⟨a0,b0,e0,h0,a1,b1,e1,h1,a2,b2,e2,h2,a3,b3,e3,h3,a4,b4,e4,h4,a5,b5,e5,h5,h6⟩:=h
 exact⟨a0,b0,e0,h0,a1,b1,e1,h1,a2,b2,e2,h2,a3,b3,e3,h3,a4,b4,e4,h4,a5,b5,e5,h5,(by rw [h6.1];exact k6)⟩
theorem n6{S:SH}{cs:List Value}{y:cj}{v2:Value}{xs2:(List (List (List Int)))}(k2:(fz (fz (fz (rI .i64)))).rc S [v2] xs2)(h:gu.rc S cs (iU y v2)):fX.rc S cs ((⟨y.Plan,y.c,xs2⟩:cj)):=by
 obtain⟨a0,b0,e0,h0,a1,b1,e1,h1,h2⟩:=h
 exact⟨a0,b0,e0,h0,a1,b1,e1,h1,(by rw [h2.1];exact k2)⟩
theorem rZ(y:bu)(v2:Value)(u:Value)(v:Value):mY eU eU 1 rV (fV y u v2) v (fV y v v2):=rx (ed (EI (jb rfl) rfl) rfl) rfl
theorem rY(y:bu)(v1:Value)(u:Value)(v:Value):mY eU eU 2 rV (fV y v1 u) v (fV y v1 v):=rx (ed (ed (jb rfl) rfl) rfl) rfl
theorem pS(y:bf)(u:Value)(v:Value):mY gC gC 0 rV (gV y u) v (gV y v):=rx (jb rfl) rfl
theorem uw(y:aK)(u:Value)(v:Value):mY dV dV 7 rV (eN y u) v (eN y v):=rx (ed (ed (ed (ed (ed (ed (ed (EI (jb rfl) rfl) rfl) rfl) rfl) rfl) rfl) rfl) rfl) rfl
theorem pp(y:aK)(u:Value)(v:Value):mY dU dU 9 rV (eM y u) v (eM y v):=rx (ed (ed (ed (ed (ed (ed (ed (ed (ed (EI (jb rfl) rfl) rfl) rfl) rfl) rfl) rfl) rfl) rfl) rfl) rfl) rfl
theorem jM(y:al)(v:Value):mY be bC 17 rV (y) v (bI y v):=rx (ed (ed (ed (ed (ed (ed (jb rfl) rfl) rfl) rfl) rfl) rfl) rfl) rfl
theorem gB(y:al)(u:Value)(v:Value):mY bC bC 17 rV (bI y u) v (bI y v):=rx (ed (ed (ed (ed (ed (ed (jb rfl) rfl) rfl) rfl) rfl) rfl) rfl) rfl
theorem s7(y:cj)(u:Value)(v:Value):mY gu gu 2 rV (iU y u) v (iU y v):=rx (ed (ed (jb rfl) rfl) rfl) rfl
def dS(b:Nat)(x:al)(i:OI):List OE:=[bx (rH be [(1,aw (i.h 0).1 (i.h 0).2 x.kinds.length),(2,aw (i.h 1).1 (i.h 1).2 x.open_.length)]) 124 b x,eF (fz (rI .i64)) 29 (i.h 0).1 (i.h 0).2 x.kinds,cG (rI .i64) 3 (i.h 1).1 (i.h 1).2 x.open_]
def SS(b:Nat)(x:al)(i:OI):List OE:=[bx (rH bC [(1,aw (i.h 0).1 (i.h 0).2 x.kinds.length),(2,aw (i.h 1).1 (i.h 1).2 x.open_.length)]) 124 b (bI x (aw (i.h 2).1 (i.h 2).2 x.result.length)),eF (fz (rI .i64)) 29 (i.h 0).1 (i.h 0).2 x.kinds,cG (rI .i64) 3 (i.h 1).1 (i.h 1).2 x.open_,cG (rI .i64) 3 (i.h 2).1 (i.h 2).2 x.result]
def S6:(List CB):=[(⟨[98,111,111,108],(1:Int)⟩:CB),(⟨[105,110,116],(2:Int)⟩:CB),(⟨[116,101,120,116],(3:Int)⟩:CB)]
theorem gm0:((0:Nat),([.string ⟨([98,111,111,108]:List UInt8).toArray⟩,.int .i64 (1),.string ⟨([105,110,116]:List UInt8).toArray⟩,.int .i64 (2),.string ⟨([116,101,120,116]:List UInt8).toArray⟩,.int .i64 (3)]:List Value))∈glob:=by simp [glob]
theorem gr0: ∀S,(iS tf 3).rc S ([.string ⟨([98,111,111,108]:List UInt8).toArray⟩,.int .i64 (1),.string ⟨([105,110,116]:List UInt8).toArray⟩,.int .i64 (2),.string ⟨([116,101,120,116]:List UInt8).toArray⟩,.int .i64 (3)]:List Value) S6:=fun _=>⟨rfl,⟨[.string ⟨([98,111,111,108]:List UInt8).toArray⟩,.int .i64 (1)],[.string ⟨([105,110,116]:List UInt8).toArray⟩,.int .i64 (2),.string ⟨([116,101,120,116]:List UInt8).toArray⟩,.int .i64 (3)],rfl,⟨[.string ⟨([98,111,111,108]:List UInt8).toArray⟩],[.int .i64 (1)],rfl,rfl,rfl⟩,⟨[.string ⟨([105,110,116]:List UInt8).toArray⟩,.int .i64 (2)],[.string ⟨([116,101,120,116]:List UInt8).toArray⟩,.int .i64 (3)],rfl,⟨[.string ⟨([105,110,116]:List UInt8).toArray⟩],[.int .i64 (2)],rfl,rfl,rfl⟩,⟨[.string ⟨([116,101,120,116]:List UInt8).toArray⟩,.int .i64 (3)],[],rfl,⟨[.string ⟨([116,101,120,116]:List UInt8).toArray⟩],[.int .i64 (3)],rfl,rfl,rfl⟩,(rfl:_=[])⟩⟩⟩⟩
def XD:(List M):=[(⟨(1:Int),(0:Int),(0:Int),[]⟩:M),(⟨(0:Int),(0:Int),(0:Int),[]⟩:M),(⟨(1:Int),(1:Int),(0:Int),[]⟩:M)]
theorem gm1:((1:Nat),([.int .i64 (1),.int .i64 (0),.int .u64 (0),.string ⟨([]:List UInt8).toArray⟩,.int .i64 (0),.int .i64 (0),.int .u64 (0),.string ⟨([]:List UInt8).toArray⟩,.int .i64 (1),.int .i64 (1),.int .u64 (0),.string ⟨([]:List UInt8).toArray⟩]:List Value))∈glob:=by simp [glob]
theorem gr1: ∀S,(iS af 3).rc S ([.int .i64 (1),.int .i64 (0),.int .u64 (0),.string ⟨([]:List UInt8).toArray⟩,.int .i64 (0),.int .i64 (0),.int .u64 (0),.string ⟨([]:List UInt8).toArray⟩,.int .i64 (1),.int .i64 (1),.int .u64 (0),.string ⟨([]:List UInt8).toArray⟩]:List Value) XD:=fun _=>⟨rfl,⟨[.int .i64 (1),.int .i64 (0),.int .u64 (0),.string ⟨([]:List UInt8).toArray⟩],[.int .i64 (0),.int .i64 (0),.int .u64 (0),.string ⟨([]:List UInt8).toArray⟩,.int .i64 (1),.int .i64 (1),.int .u64 (0),.string ⟨([]:List UInt8).toArray⟩],rfl,⟨[.int .i64 (1)],[.int .i64 (0),.int .u64 (0),.string ⟨([]:List UInt8).toArray⟩],rfl,rfl,⟨[.int .i64 (0)],[.int .u64 (0),.string ⟨([]:List UInt8).toArray⟩],rfl,rfl,⟨[.int .u64 (0)],[.string ⟨([]:List UInt8).toArray⟩],rfl,rfl,rfl⟩⟩⟩,⟨[.int .i64 (0),.int .i64 (0),.int .u64 (0),.string ⟨([]:List UInt8).toArray⟩],[.int .i64 (1),.int .i64 (1),.int .u64 (0),.string ⟨([]:List UInt8).toArray⟩],rfl,⟨[.int .i64 (0)],[.int .i64 (0),.int .u64 (0),.string ⟨([]:List UInt8).toArray⟩],rfl,rfl,⟨[.int .i64 (0)],[.int .u64 (0),.string ⟨([]:List UInt8).toArray⟩],rfl,rfl,⟨[.int .u64 (0)],[.string ⟨([]:List UInt8).toArray⟩],rfl,rfl,rfl⟩⟩⟩,⟨[.int .i64 (1),.int .i64 (1),.int .u64 (0),.string ⟨([]:List UInt8).toArray⟩],[],rfl,⟨[.int .i64 (1)],[.int .i64 (1),.int .u64 (0),.string ⟨([]:List UInt8).toArray⟩],rfl,rfl,⟨[.int .i64 (1)],[.int .u64 (0),.string ⟨([]:List UInt8).toArray⟩],rfl,rfl,⟨[.int .u64 (0)],[.string ⟨([]:List UInt8).toArray⟩],rfl,rfl,rfl⟩⟩⟩,(rfl:_=[])⟩⟩⟩⟩
def UM:(List im):=[[83,69,76,69,67,84],[68,73,83,84,73,78,67,84],[70,82,79,77],[76,69,70,84],[74,79,73,78],[79,78],[87,72,69,82,69],[71,82,79,85,80],[66,89],[72,65,86,73,78,71],[85,78,73,79,78],[65,76,76],[79,82,68,69,82],[76,73,77,73,84],[65,83,67],[68,69,83,67],[65,83],[65,78,68],[79,82],[78,79,84],[73,83],[78,85,76,76],[84,82,85,69],[70,65,76,83,69],[67,79,85,78,84],[83,85,77],[77,73,78],[77,65,88]]
theorem gm2:((2:Nat),([.string ⟨([83,69,76,69,67,84]:List UInt8).toArray⟩,.string ⟨([68,73,83,84,73,78,67,84]:List UInt8).toArray⟩,.string ⟨([70,82,79,77]:List UInt8).toArray⟩,.string ⟨([76,69,70,84]:List UInt8).toArray⟩,.string ⟨([74,79,73,78]:List UInt8).toArray⟩,.string ⟨([79,78]:List UInt8).toArray⟩,.string ⟨([87,72,69,82,69]:List UInt8).toArray⟩,.string ⟨([71,82,79,85,80]:List UInt8).toArray⟩,.string ⟨([66,89]:List UInt8).toArray⟩,.string ⟨([72,65,86,73,78,71]:List UInt8).toArray⟩,.string ⟨([85,78,73,79,78]:List UInt8).toArray⟩,.string ⟨([65,76,76]:List UInt8).toArray⟩,.string ⟨([79,82,68,69,82]:List UInt8).toArray⟩,.string ⟨([76,73,77,73,84]:List UInt8).toArray⟩,.string ⟨([65,83,67]:List UInt8).toArray⟩,.string ⟨([68,69,83,67]:List UInt8).toArray⟩,.string ⟨([65,83]:List UInt8).toArray⟩,.string ⟨([65,78,68]:List UInt8).toArray⟩,.string ⟨([79,82]:List UInt8).toArray⟩,.string ⟨([78,79,84]:List UInt8).toArray⟩,.string ⟨([73,83]:List UInt8).toArray⟩,.string ⟨([78,85,76,76]:List UInt8).toArray⟩,.string ⟨([84,82,85,69]:List UInt8).toArray⟩,.string ⟨([70,65,76,83,69]:List UInt8).toArray⟩,.string ⟨([67,79,85,78,84]:List UInt8).toArray⟩,.string ⟨([83,85,77]:List UInt8).toArray⟩,.string ⟨([77,73,78]:List UInt8).toArray⟩,.string ⟨([77,65,88]:List UInt8).toArray⟩]:List Value))∈glob:=by simp [glob]
theorem gr2: ∀S,(iS rS 28).rc S ([.string ⟨([83,69,76,69,67,84]:List UInt8).toArray⟩,.string ⟨([68,73,83,84,73,78,67,84]:List UInt8).toArray⟩,.string ⟨([70,82,79,77]:List UInt8).toArray⟩,.string ⟨([76,69,70,84]:List UInt8).toArray⟩,.string ⟨([74,79,73,78]:List UInt8).toArray⟩,.string ⟨([79,78]:List UInt8).toArray⟩,.string ⟨([87,72,69,82,69]:List UInt8).toArray⟩,.string ⟨([71,82,79,85,80]:List UInt8).toArray⟩,.string ⟨([66,89]:List UInt8).toArray⟩,.string ⟨([72,65,86,73,78,71]:List UInt8).toArray⟩,.string ⟨([85,78,73,79,78]:List UInt8).toArray⟩,.string ⟨([65,76,76]:List UInt8).toArray⟩,.string ⟨([79,82,68,69,82]:List UInt8).toArray⟩,.string ⟨([76,73,77,73,84]:List UInt8).toArray⟩,.string ⟨([65,83,67]:List UInt8).toArray⟩,.string ⟨([68,69,83,67]:List UInt8).toArray⟩,.string ⟨([65,83]:List UInt8).toArray⟩,.string ⟨([65,78,68]:List UInt8).toArray⟩,.string ⟨([79,82]:List UInt8).toArray⟩,.string ⟨([78,79,84]:List UInt8).toArray⟩,.string ⟨([73,83]:List UInt8).toArray⟩,.string ⟨([78,85,76,76]:List UInt8).toArray⟩,.string ⟨([84,82,85,69]:List UInt8).toArray⟩,.string ⟨([70,65,76,83,69]:List UInt8).toArray⟩,.string ⟨([67,79,85,78,84]:List UInt8).toArray⟩,.string ⟨([83,85,77]:List UInt8).toArray⟩,.string ⟨([77,73,78]:List UInt8).toArray⟩,.string ⟨([77,65,88]:List UInt8).toArray⟩]:List Value) UM:=fun _=>⟨rfl,⟨[.string ⟨([83,69,76,69,67,84]:List UInt8).toArray⟩],[.string ⟨([68,73,83,84,73,78,67,84]:List UInt8).toArray⟩,.string ⟨([70,82,79,77]:List UInt8).toArray⟩,.string ⟨([76,69,70,84]:List UInt8).toArray⟩,.string ⟨([74,79,73,78]:List UInt8).toArray⟩,.string ⟨([79,78]:List UInt8).toArray⟩,.string ⟨([87,72,69,82,69]:List UInt8).toArray⟩,.string ⟨([71,82,79,85,80]:List UInt8).toArray⟩,.string ⟨([66,89]:List UInt8).toArray⟩,.string ⟨([72,65,86,73,78,71]:List UInt8).toArray⟩,.string ⟨([85,78,73,79,78]:List UInt8).toArray⟩,.string ⟨([65,76,76]:List UInt8).toArray⟩,.string ⟨([79,82,68,69,82]:List UInt8).toArray⟩,.string ⟨([76,73,77,73,84]:List UInt8).toArray⟩,.string ⟨([65,83,67]:List UInt8).toArray⟩,.string ⟨([68,69,83,67]:List UInt8).toArray⟩,.string ⟨([65,83]:List UInt8).toArray⟩,.string ⟨([65,78,68]:List UInt8).toArray⟩,.string ⟨([79,82]:List UInt8).toArray⟩,.string ⟨([78,79,84]:List UInt8).toArray⟩,.string ⟨([73,83]:List UInt8).toArray⟩,.string ⟨([78,85,76,76]:List UInt8).toArray⟩,.string ⟨([84,82,85,69]:List UInt8).toArray⟩,.string ⟨([70,65,76,83,69]:List UInt8).toArray⟩,.string ⟨([67,79,85,78,84]:List UInt8).toArray⟩,.string ⟨([83,85,77]:List UInt8).toArray⟩,.string ⟨([77,73,78]:List UInt8).toArray⟩,.string ⟨([77,65,88]:List UInt8).toArray⟩],rfl,rfl,⟨[.string ⟨([68,73,83,84,73,78,67,84]:List UInt8).toArray⟩],[.string ⟨([70,82,79,77]:List UInt8).toArray⟩,.string ⟨([76,69,70,84]:List UInt8).toArray⟩,.string ⟨([74,79,73,78]:List UInt8).toArray⟩,.string ⟨([79,78]:List UInt8).toArray⟩,.string ⟨([87,72,69,82,69]:List UInt8).toArray⟩,.string ⟨([71,82,79,85,80]:List UInt8).toArray⟩,.string ⟨([66,89]:List UInt8).toArray⟩,.string ⟨([72,65,86,73,78,71]:List UInt8).toArray⟩,.string ⟨([85,78,73,79,78]:List UInt8).toArray⟩,.string ⟨([65,76,76]:List UInt8).toArray⟩,.string ⟨([79,82,68,69,82]:List UInt8).toArray⟩,.string ⟨([76,73,77,73,84]:List UInt8).toArray⟩,.string ⟨([65,83,67]:List UInt8).toArray⟩,.string ⟨([68,69,83,67]:List UInt8).toArray⟩,.string ⟨([65,83]:List UInt8).toArray⟩,.string ⟨([65,78,68]:List UInt8).toArray⟩,.string ⟨([79,82]:List UInt8).toArray⟩,.string ⟨([78,79,84]:List UInt8).toArray⟩,.string ⟨([73,83]:List UInt8).toArray⟩,.string ⟨([78,85,76,76]:List UInt8).toArray⟩,.string ⟨([84,82,85,69]:List UInt8).toArray⟩,.string ⟨([70,65,76,83,69]:List UInt8).toArray⟩,.string ⟨([67,79,85,78,84]:List UInt8).toArray⟩,.string ⟨([83,85,77]:List UInt8).toArray⟩,.string ⟨([77,73,78]:List UInt8).toArray⟩,.string ⟨([77,65,88]:List UInt8).toArray⟩],rfl,rfl,⟨[.string ⟨([70,82,79,77]:List UInt8).toArray⟩],[.string ⟨([76,69,70,84]:List UInt8).toArray⟩,.string ⟨([74,79,73,78]:List UInt8).toArray⟩,.string ⟨([79,78]:List UInt8).toArray⟩,.string ⟨([87,72,69,82,69]:List UInt8).toArray⟩,.string ⟨([71,82,79,85,80]:List UInt8).toArray⟩,.string ⟨([66,89]:List UInt8).toArray⟩,.string ⟨([72,65,86,73,78,71]:List UInt8).toArray⟩,.string ⟨([85,78,73,79,78]:List UInt8).toArray⟩,.string ⟨([65,76,76]:List UInt8).toArray⟩,.string ⟨([79,82,68,69,82]:List UInt8).toArray⟩,.string ⟨([76,73,77,73,84]:List UInt8).toArray⟩,.string ⟨([65,83,67]:List UInt8).toArray⟩,.string ⟨([68,69,83,67]:List UInt8).toArray⟩,.string ⟨([65,83]:List UInt8).toArray⟩,.string ⟨([65,78,68]:List UInt8).toArray⟩,.string ⟨([79,82]:List UInt8).toArray⟩,.string ⟨([78,79,84]:List UInt8).toArray⟩,.string ⟨([73,83]:List UInt8).toArray⟩,.string ⟨([78,85,76,76]:List UInt8).toArray⟩,.string ⟨([84,82,85,69]:List UInt8).toArray⟩,.string ⟨([70,65,76,83,69]:List UInt8).toArray⟩,.string ⟨([67,79,85,78,84]:List UInt8).toArray⟩,.string ⟨([83,85,77]:List UInt8).toArray⟩,.string ⟨([77,73,78]:List UInt8).toArray⟩,.string ⟨([77,65,88]:List UInt8).toArray⟩],rfl,rfl,⟨[.string ⟨([76,69,70,84]:List UInt8).toArray⟩],[.string ⟨([74,79,73,78]:List UInt8).toArray⟩,.string ⟨([79,78]:List UInt8).toArray⟩,.string ⟨([87,72,69,82,69]:List UInt8).toArray⟩,.string ⟨([71,82,79,85,80]:List UInt8).toArray⟩,.string ⟨([66,89]:List UInt8).toArray⟩,.string ⟨([72,65,86,73,78,71]:List UInt8).toArray⟩,.string ⟨([85,78,73,79,78]:List UInt8).toArray⟩,.string ⟨([65,76,76]:List UInt8).toArray⟩,.string ⟨([79,82,68,69,82]:List UInt8).toArray⟩,.string ⟨([76,73,77,73,84]:List UInt8).toArray⟩,.string ⟨([65,83,67]:List UInt8).toArray⟩,.string ⟨([68,69,83,67]:List UInt8).toArray⟩,.string ⟨([65,83]:List UInt8).toArray⟩,.string ⟨([65,78,68]:List UInt8).toArray⟩,.string ⟨([79,82]:List UInt8).toArray⟩,.string ⟨([78,79,84]:List UInt8).toArray⟩,.string ⟨([73,83]:List UInt8).toArray⟩,.string ⟨([78,85,76,76]:List UInt8).toArray⟩,.string ⟨([84,82,85,69]:List UInt8).toArray⟩,.string ⟨([70,65,76,83,69]:List UInt8).toArray⟩,.string ⟨([67,79,85,78,84]:List UInt8).toArray⟩,.string ⟨([83,85,77]:List UInt8).toArray⟩,.string ⟨([77,73,78]:List UInt8).toArray⟩,.string ⟨([77,65,88]:List UInt8).toArray⟩],rfl,rfl,⟨[.string ⟨([74,79,73,78]:List UInt8).toArray⟩],[.string ⟨([79,78]:List UInt8).toArray⟩,.string ⟨([87,72,69,82,69]:List UInt8).toArray⟩,.string ⟨([71,82,79,85,80]:List UInt8).toArray⟩,.string ⟨([66,89]:List UInt8).toArray⟩,.string ⟨([72,65,86,73,78,71]:List UInt8).toArray⟩,.string ⟨([85,78,73,79,78]:List UInt8).toArray⟩,.string ⟨([65,76,76]:List UInt8).toArray⟩,.string ⟨([79,82,68,69,82]:List UInt8).toArray⟩,.string ⟨([76,73,77,73,84]:List UInt8).toArray⟩,.string ⟨([65,83,67]:List UInt8).toArray⟩,.string ⟨([68,69,83,67]:List UInt8).toArray⟩,.string ⟨([65,83]:List UInt8).toArray⟩,.string ⟨([65,78,68]:List UInt8).toArray⟩,.string ⟨([79,82]:List UInt8).toArray⟩,.string ⟨([78,79,84]:List UInt8).toArray⟩,.string ⟨([73,83]:List UInt8).toArray⟩,.string ⟨([78,85,76,76]:List UInt8).toArray⟩,.string ⟨([84,82,85,69]:List UInt8).toArray⟩,.string ⟨([70,65,76,83,69]:List UInt8).toArray⟩,.string ⟨([67,79,85,78,84]:List UInt8).toArray⟩,.string ⟨([83,85,77]:List UInt8).toArray⟩,.string ⟨([77,73,78]:List UInt8).toArray⟩,.string ⟨([77,65,88]:List UInt8).toArray⟩],rfl,rfl,⟨[.string ⟨([79,78]:List UInt8).toArray⟩],[.string ⟨([87,72,69,82,69]:List UInt8).toArray⟩,.string ⟨([71,82,79,85,80]:List UInt8).toArray⟩,.string ⟨([66,89]:List UInt8).toArray⟩,.string ⟨([72,65,86,73,78,71]:List UInt8).toArray⟩,.string ⟨([85,78,73,79,78]:List UInt8).toArray⟩,.string ⟨([65,76,76]:List UInt8).toArray⟩,.string ⟨([79,82,68,69,82]:List UInt8).toArray⟩,.string ⟨([76,73,77,73,84]:List UInt8).toArray⟩,.string ⟨([65,83,67]:List UInt8).toArray⟩,.string ⟨([68,69,83,67]:List UInt8).toArray⟩,.string ⟨([65,83]:List UInt8).toArray⟩,.string ⟨([65,78,68]:List UInt8).toArray⟩,.string ⟨([79,82]:List UInt8).toArray⟩,.string ⟨([78,79,84]:List UInt8).toArray⟩,.string ⟨([73,83]:List UInt8).toArray⟩,.string ⟨([78,85,76,76]:List UInt8).toArray⟩,.string ⟨([84,82,85,69]:List UInt8).toArray⟩,.string ⟨([70,65,76,83,69]:List UInt8).toArray⟩,.string ⟨([67,79,85,78,84]:List UInt8).toArray⟩,.string ⟨([83,85,77]:List UInt8).toArray⟩,.string ⟨([77,73,78]:List UInt8).toArray⟩,.string ⟨([77,65,88]:List UInt8).toArray⟩],rfl,rfl,⟨[.string ⟨([87,72,69,82,69]:List UInt8).toArray⟩],[.string ⟨([71,82,79,85,80]:List UInt8).toArray⟩,.string ⟨([66,89]:List UInt8).toArray⟩,.string ⟨([72,65,86,73,78,71]:List UInt8).toArray⟩,.string ⟨([85,78,73,79,78]:List UInt8).toArray⟩,.string ⟨([65,76,76]:List UInt8).toArray⟩,.string ⟨([79,82,68,69,82]:List UInt8).toArray⟩,.string ⟨([76,73,77,73,84]:List UInt8).toArray⟩,.string ⟨([65,83,67]:List UInt8).toArray⟩,.string ⟨([68,69,83,67]:List UInt8).toArray⟩,.string ⟨([65,83]:List UInt8).toArray⟩,.string ⟨([65,78,68]:List UInt8).toArray⟩,.string ⟨([79,82]:List UInt8).toArray⟩,.string ⟨([78,79,84]:List UInt8).toArray⟩,.string ⟨([73,83]:List UInt8).toArray⟩,.string ⟨([78,85,76,76]:List UInt8).toArray⟩,.string ⟨([84,82,85,69]:List UInt8).toArray⟩,.string ⟨([70,65,76,83,69]:List UInt8).toArray⟩,.string ⟨([67,79,85,78,84]:List UInt8).toArray⟩,.string ⟨([83,85,77]:List UInt8).toArray⟩,.string ⟨([77,73,78]:List UInt8).toArray⟩,.string ⟨([77,65,88]:List UInt8).toArray⟩],rfl,rfl,⟨[.string ⟨([71,82,79,85,80]:List UInt8).toArray⟩],[.string ⟨([66,89]:List UInt8).toArray⟩,.string ⟨([72,65,86,73,78,71]:List UInt8).toArray⟩,.string ⟨([85,78,73,79,78]:List UInt8).toArray⟩,.string ⟨([65,76,76]:List UInt8).toArray⟩,.string ⟨([79,82,68,69,82]:List UInt8).toArray⟩,.string ⟨([76,73,77,73,84]:List UInt8).toArray⟩,.string ⟨([65,83,67]:List UInt8).toArray⟩,.string ⟨([68,69,83,67]:List UInt8).toArray⟩,.string ⟨([65,83]:List UInt8).toArray⟩,.string ⟨([65,78,68]:List UInt8).toArray⟩,.string ⟨([79,82]:List UInt8).toArray⟩,.string ⟨([78,79,84]:List UInt8).toArray⟩,.string ⟨([73,83]:List UInt8).toArray⟩,.string ⟨([78,85,76,76]:List UInt8).toArray⟩,.string ⟨([84,82,85,69]:List UInt8).toArray⟩,.string ⟨([70,65,76,83,69]:List UInt8).toArray⟩,.string ⟨([67,79,85,78,84]:List UInt8).toArray⟩,.string ⟨([83,85,77]:List UInt8).toArray⟩,.string ⟨([77,73,78]:List UInt8).toArray⟩,.string ⟨([77,65,88]:List UInt8).toArray⟩],rfl,rfl,⟨[.string ⟨([66,89]:List UInt8).toArray⟩],[.string ⟨([72,65,86,73,78,71]:List UInt8).toArray⟩,.string ⟨([85,78,73,79,78]:List UInt8).toArray⟩,.string ⟨([65,76,76]:List UInt8).toArray⟩,.string ⟨([79,82,68,69,82]:List UInt8).toArray⟩,.string ⟨([76,73,77,73,84]:List UInt8).toArray⟩,.string ⟨([65,83,67]:List UInt8).toArray⟩,.string ⟨([68,69,83,67]:List UInt8).toArray⟩,.string ⟨([65,83]:List UInt8).toArray⟩,.string ⟨([65,78,68]:List UInt8).toArray⟩,.string ⟨([79,82]:List UInt8).toArray⟩,.string ⟨([78,79,84]:List UInt8).toArray⟩,.string ⟨([73,83]:List UInt8).toArray⟩,.string ⟨([78,85,76,76]:List UInt8).toArray⟩,.string ⟨([84,82,85,69]:List UInt8).toArray⟩,.string ⟨([70,65,76,83,69]:List UInt8).toArray⟩,.string ⟨([67,79,85,78,84]:List UInt8).toArray⟩,.string ⟨([83,85,77]:List UInt8).toArray⟩,.string ⟨([77,73,78]:List UInt8).toArray⟩,.string ⟨([77,65,88]:List UInt8).toArray⟩],rfl,rfl,⟨[.string ⟨([72,65,86,73,78,71]:List UInt8).toArray⟩],[.string ⟨([85,78,73,79,78]:List UInt8).toArray⟩,.string ⟨([65,76,76]:List UInt8).toArray⟩,.string ⟨([79,82,68,69,82]:List UInt8).toArray⟩,.string ⟨([76,73,77,73,84]:List UInt8).toArray⟩,.string ⟨([65,83,67]:List UInt8).toArray⟩,.string ⟨([68,69,83,67]:List UInt8).toArray⟩,.string ⟨([65,83]:List UInt8).toArray⟩,.string ⟨([65,78,68]:List UInt8).toArray⟩,.string ⟨([79,82]:List UInt8).toArray⟩,.string ⟨([78,79,84]:List UInt8).toArray⟩,.string ⟨([73,83]:List UInt8).toArray⟩,.string ⟨([78,85,76,76]:List UInt8).toArray⟩,.string ⟨([84,82,85,69]:List UInt8).toArray⟩,.string ⟨([70,65,76,83,69]:List UInt8).toArray⟩,.string ⟨([67,79,85,78,84]:List UInt8).toArray⟩,.string ⟨([83,85,77]:List UInt8).toArray⟩,.string ⟨([77,73,78]:List UInt8).toArray⟩,.string ⟨([77,65,88]:List UInt8).toArray⟩],rfl,rfl,⟨[.string ⟨([85,78,73,79,78]:List UInt8).toArray⟩],[.string ⟨([65,76,76]:List UInt8).toArray⟩,.string ⟨([79,82,68,69,82]:List UInt8).toArray⟩,.string ⟨([76,73,77,73,84]:List UInt8).toArray⟩,.string ⟨([65,83,67]:List UInt8).toArray⟩,.string ⟨([68,69,83,67]:List UInt8).toArray⟩,.string ⟨([65,83]:List UInt8).toArray⟩,.string ⟨([65,78,68]:List UInt8).toArray⟩,.string ⟨([79,82]:List UInt8).toArray⟩,.string ⟨([78,79,84]:List UInt8).toArray⟩,.string ⟨([73,83]:List UInt8).toArray⟩,.string ⟨([78,85,76,76]:List UInt8).toArray⟩,.string ⟨([84,82,85,69]:List UInt8).toArray⟩,.string ⟨([70,65,76,83,69]:List UInt8).toArray⟩,.string ⟨([67,79,85,78,84]:List UInt8).toArray⟩,.string ⟨([83,85,77]:List UInt8).toArray⟩,.string ⟨([77,73,78]:List UInt8).toArray⟩,.string ⟨([77,65,88]:List UInt8).toArray⟩],rfl,rfl,⟨[.string ⟨([65,76,76]:List UInt8).toArray⟩],[.string ⟨([79,82,68,69,82]:List UInt8).toArray⟩,.string ⟨([76,73,77,73,84]:List UInt8).toArray⟩,.string ⟨([65,83,67]:List UInt8).toArray⟩,.string ⟨([68,69,83,67]:List UInt8).toArray⟩,.string ⟨([65,83]:List UInt8).toArray⟩,.string ⟨([65,78,68]:List UInt8).toArray⟩,.string ⟨([79,82]:List UInt8).toArray⟩,.string ⟨([78,79,84]:List UInt8).toArray⟩,.string ⟨([73,83]:List UInt8).toArray⟩,.string ⟨([78,85,76,76]:List UInt8).toArray⟩,.string ⟨([84,82,85,69]:List UInt8).toArray⟩,.string ⟨([70,65,76,83,69]:List UInt8).toArray⟩,.string ⟨([67,79,85,78,84]:List UInt8).toArray⟩,.string ⟨([83,85,77]:List UInt8).toArray⟩,.string ⟨([77,73,78]:List UInt8).toArray⟩,.string ⟨([77,65,88]:List UInt8).toArray⟩],rfl,rfl,⟨[.string ⟨([79,82,68,69,82]:List UInt8).toArray⟩],[.string ⟨([76,73,77,73,84]:List UInt8).toArray⟩,.string ⟨([65,83,67]:List UInt8).toArray⟩,.string ⟨([68,69,83,67]:List UInt8).toArray⟩,.string ⟨([65,83]:List UInt8).toArray⟩,.string ⟨([65,78,68]:List UInt8).toArray⟩,.string ⟨([79,82]:List UInt8).toArray⟩,.string ⟨([78,79,84]:List UInt8).toArray⟩,.string ⟨([73,83]:List UInt8).toArray⟩,.string ⟨([78,85,76,76]:List UInt8).toArray⟩,.string ⟨([84,82,85,69]:List UInt8).toArray⟩,.string ⟨([70,65,76,83,69]:List UInt8).toArray⟩,.string ⟨([67,79,85,78,84]:List UInt8).toArray⟩,.string ⟨([83,85,77]:List UInt8).toArray⟩,.string ⟨([77,73,78]:List UInt8).toArray⟩,.string ⟨([77,65,88]:List UInt8).toArray⟩],rfl,rfl,⟨[.string ⟨([76,73,77,73,84]:List UInt8).toArray⟩],[.string ⟨([65,83,67]:List UInt8).toArray⟩,.string ⟨([68,69,83,67]:List UInt8).toArray⟩,.string ⟨([65,83]:List UInt8).toArray⟩,.string ⟨([65,78,68]:List UInt8).toArray⟩,.string ⟨([79,82]:List UInt8).toArray⟩,.string ⟨([78,79,84]:List UInt8).toArray⟩,.string ⟨([73,83]:List UInt8).toArray⟩,.string ⟨([78,85,76,76]:List UInt8).toArray⟩,.string ⟨([84,82,85,69]:List UInt8).toArray⟩,.string ⟨([70,65,76,83,69]:List UInt8).toArray⟩,.string ⟨([67,79,85,78,84]:List UInt8).toArray⟩,.string ⟨([83,85,77]:List UInt8).toArray⟩,.string ⟨([77,73,78]:List UInt8).toArray⟩,.string ⟨([77,65,88]:List UInt8).toArray⟩],rfl,rfl,⟨[.string ⟨([65,83,67]:List UInt8).toArray⟩],[.string ⟨([68,69,83,67]:List UInt8).toArray⟩,.string ⟨([65,83]:List UInt8).toArray⟩,.string ⟨([65,78,68]:List UInt8).toArray⟩,.string ⟨([79,82]:List UInt8).toArray⟩,.string ⟨([78,79,84]:List UInt8).toArray⟩,.string ⟨([73,83]:List UInt8).toArray⟩,.string ⟨([78,85,76,76]:List UInt8).toArray⟩,.string ⟨([84,82,85,69]:List UInt8).toArray⟩,.string ⟨([70,65,76,83,69]:List UInt8).toArray⟩,.string ⟨([67,79,85,78,84]:List UInt8).toArray⟩,.string ⟨([83,85,77]:List UInt8).toArray⟩,.string ⟨([77,73,78]:List UInt8).toArray⟩,.string ⟨([77,65,88]:List UInt8).toArray⟩],rfl,rfl,⟨[.string ⟨([68,69,83,67]:List UInt8).toArray⟩],[.string ⟨([65,83]:List UInt8).toArray⟩,.string ⟨([65,78,68]:List UInt8).toArray⟩,.string ⟨([79,82]:List UInt8).toArray⟩,.string ⟨([78,79,84]:List UInt8).toArray⟩,.string ⟨([73,83]:List UInt8).toArray⟩,.string ⟨([78,85,76,76]:List UInt8).toArray⟩,.string ⟨([84,82,85,69]:List UInt8).toArray⟩,.string ⟨([70,65,76,83,69]:List UInt8).toArray⟩,.string ⟨([67,79,85,78,84]:List UInt8).toArray⟩,.string ⟨([83,85,77]:List UInt8).toArray⟩,.string ⟨([77,73,78]:List UInt8).toArray⟩,.string ⟨([77,65,88]:List UInt8).toArray⟩],rfl,rfl,⟨[.string ⟨([65,83]:List UInt8).toArray⟩],[.string ⟨([65,78,68]:List UInt8).toArray⟩,.string ⟨([79,82]:List UInt8).toArray⟩,.string ⟨([78,79,84]:List UInt8).toArray⟩,.string ⟨([73,83]:List UInt8).toArray⟩,.string ⟨([78,85,76,76]:List UInt8).toArray⟩,.string ⟨([84,82,85,69]:List UInt8).toArray⟩,.string ⟨([70,65,76,83,69]:List UInt8).toArray⟩,.string ⟨([67,79,85,78,84]:List UInt8).toArray⟩,.string ⟨([83,85,77]:List UInt8).toArray⟩,.string ⟨([77,73,78]:List UInt8).toArray⟩,.string ⟨([77,65,88]:List UInt8).toArray⟩],rfl,rfl,⟨[.string ⟨([65,78,68]:List UInt8).toArray⟩],[.string ⟨([79,82]:List UInt8).toArray⟩,.string ⟨([78,79,84]:List UInt8).toArray⟩,.string ⟨([73,83]:List UInt8).toArray⟩,.string ⟨([78,85,76,76]:List UInt8).toArray⟩,.string ⟨([84,82,85,69]:List UInt8).toArray⟩,.string ⟨([70,65,76,83,69]:List UInt8).toArray⟩,.string ⟨([67,79,85,78,84]:List UInt8).toArray⟩,.string ⟨([83,85,77]:List UInt8).toArray⟩,.string ⟨([77,73,78]:List UInt8).toArray⟩,.string ⟨([77,65,88]:List UInt8).toArray⟩],rfl,rfl,⟨[.string ⟨([79,82]:List UInt8).toArray⟩],[.string ⟨([78,79,84]:List UInt8).toArray⟩,.string ⟨([73,83]:List UInt8).toArray⟩,.string ⟨([78,85,76,76]:List UInt8).toArray⟩,.string ⟨([84,82,85,69]:List UInt8).toArray⟩,.string ⟨([70,65,76,83,69]:List UInt8).toArray⟩,.string ⟨([67,79,85,78,84]:List UInt8).toArray⟩,.string ⟨([83,85,77]:List UInt8).toArray⟩,.string ⟨([77,73,78]:List UInt8).toArray⟩,.string ⟨([77,65,88]:List UInt8).toArray⟩],rfl,rfl,⟨[.string ⟨([78,79,84]:List UInt8).toArray⟩],[.string ⟨([73,83]:List UInt8).toArray⟩,.string ⟨([78,85,76,76]:List UInt8).toArray⟩,.string ⟨([84,82,85,69]:List UInt8).toArray⟩,.string ⟨([70,65,76,83,69]:List UInt8).toArray⟩,.string ⟨([67,79,85,78,84]:List UInt8).toArray⟩,.string ⟨([83,85,77]:List UInt8).toArray⟩,.string ⟨([77,73,78]:List UInt8).toArray⟩,.string ⟨([77,65,88]:List UInt8).toArray⟩],rfl,rfl,⟨[.string ⟨([73,83]:List UInt8).toArray⟩],[.string ⟨([78,85,76,76]:List UInt8).toArray⟩,.string ⟨([84,82,85,69]:List UInt8).toArray⟩,.string ⟨([70,65,76,83,69]:List UInt8).toArray⟩,.string ⟨([67,79,85,78,84]:List UInt8).toArray⟩,.string ⟨([83,85,77]:List UInt8).toArray⟩,.string ⟨([77,73,78]:List UInt8).toArray⟩,.string ⟨([77,65,88]:List UInt8).toArray⟩],rfl,rfl,⟨[.string ⟨([78,85,76,76]:List UInt8).toArray⟩],[.string ⟨([84,82,85,69]:List UInt8).toArray⟩,.string ⟨([70,65,76,83,69]:List UInt8).toArray⟩,.string ⟨([67,79,85,78,84]:List UInt8).toArray⟩,.string ⟨([83,85,77]:List UInt8).toArray⟩,.string ⟨([77,73,78]:List UInt8).toArray⟩,.string ⟨([77,65,88]:List UInt8).toArray⟩],rfl,rfl,⟨[.string ⟨([84,82,85,69]:List UInt8).toArray⟩],[.string ⟨([70,65,76,83,69]:List UInt8).toArray⟩,.string ⟨([67,79,85,78,84]:List UInt8).toArray⟩,.string ⟨([83,85,77]:List UInt8).toArray⟩,.string ⟨([77,73,78]:List UInt8).toArray⟩,.string ⟨([77,65,88]:List UInt8).toArray⟩],rfl,rfl,⟨[.string ⟨([70,65,76,83,69]:List UInt8).toArray⟩],[.string ⟨([67,79,85,78,84]:List UInt8).toArray⟩,.string ⟨([83,85,77]:List UInt8).toArray⟩,.string ⟨([77,73,78]:List UInt8).toArray⟩,.string ⟨([77,65,88]:List UInt8).toArray⟩],rfl,rfl,⟨[.string ⟨([67,79,85,78,84]:List UInt8).toArray⟩],[.string ⟨([83,85,77]:List UInt8).toArray⟩,.string ⟨([77,73,78]:List UInt8).toArray⟩,.string ⟨([77,65,88]:List UInt8).toArray⟩],rfl,rfl,⟨[.string ⟨([83,85,77]:List UInt8).toArray⟩],[.string ⟨([77,73,78]:List UInt8).toArray⟩,.string ⟨([77,65,88]:List UInt8).toArray⟩],rfl,rfl,⟨[.string ⟨([77,73,78]:List UInt8).toArray⟩],[.string ⟨([77,65,88]:List UInt8).toArray⟩],rfl,rfl,⟨[.string ⟨([77,65,88]:List UInt8).toArray⟩],[],rfl,rfl,(rfl:_=[])⟩⟩⟩⟩⟩⟩⟩⟩⟩⟩⟩⟩⟩⟩⟩⟩⟩⟩⟩⟩⟩⟩⟩⟩⟩⟩⟩⟩⟩

end Go.Proofs.YtmogpgcfognefaaGreatDoor

