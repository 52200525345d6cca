/- cU of this claim: D. -/
import Derived.Test.YtfhhakidodmdfaaGreatDoorJfV3
import Derived.Test.YtfhhakidodmdfaaGreatDoorJfV4
set_option linter.all false
namespace Go.Proofs.YtfhhakidodmdfaaGreatDoor
open Go

structure ac where
 Kind:Int
 N:Int
 U:Int
 S:xC
 deriving DecidableEq,Inhabited
def af:Rp ac:=qk (cQ (rI .i64) (cQ (rI .i64) (cQ (rI .u64) rS))) (fun x=>(x.Kind,x.N,x.U,x.S))
theorem cS:qH af 0 (rI .i64) (fun x=>x.Kind):=(gN dT)
theorem oq:ko af 0 (rI .i64) (fun x y=>{x with Kind:=y}):=dA fQ (fun _ _=>rfl)
theorem fI:qH af 1 (rI .i64) (fun x=>x.N):=(gN (bh dT rfl))
theorem pC:ko af 1 (rI .i64) (fun x y=>{x with N:=y}):=dA (bm fQ rfl) (fun _ _=>rfl)
theorem rf:qH af 2 (rI .u64) (fun x=>x.U):=(gN (bh (bh dT rfl) rfl))
theorem Av:ko af 2 (rI .u64) (fun x y=>{x with U:=y}):=dA (bm (bm fQ rfl) rfl) (fun _ _=>rfl)
theorem oA:qH af 3 rS (fun x=>x.S):=(bh (bh (bh dT rfl) rfl) rfl)
theorem MO:ko af 3 rS (fun x y=>{x with S:=y}):=dA (bm (bm (bm an rfl) rfl) rfl) (fun _ _=>rfl)
theorem bk: ∀S,af.rc S [.int .i64 0,.int .i64 0,.int .u64 0,.string ⟨#[]⟩] ((⟨(0:Int),(0:Int),(0:Int),[]⟩:ac)):=fun _=>⟨[.int .i64 0],[.int .i64 0,.int .u64 0,.string ⟨#[]⟩],rfl,rfl,⟨[.int .i64 0],[.int .u64 0,.string ⟨#[]⟩],rfl,rfl,⟨[.int .u64 0],[.string ⟨#[]⟩],rfl,rfl,rfl⟩⟩⟩
structure bp where
 Tag:Int
 L:Int
 R:Int
 Col:Int
 Value:ac
 deriving DecidableEq,Inhabited
def bO:Rp bp:=qk (cQ (rI .i64) (cQ (rI .i64) (cQ (rI .i64) (cQ (rI .i64) af)))) (fun x=>(x.Tag,x.L,x.R,x.Col,x.Value))
theorem iM:qH bO 0 (rI .i64) (fun x=>x.Tag):=(gN dT)
theorem MZ:ko bO 0 (rI .i64) (fun x y=>{x with Tag:=y}):=dA fQ (fun _ _=>rfl)
theorem NN:qH bO 1 (rI .i64) (fun x=>x.L):=(gN (bh dT rfl))
theorem MY:ko bO 1 (rI .i64) (fun x y=>{x with L:=y}):=dA (bm fQ rfl) (fun _ _=>rfl)
theorem NM:qH bO 2 (rI .i64) (fun x=>x.R):=(gN (bh (bh dT rfl) rfl))
theorem MX:ko bO 2 (rI .i64) (fun x y=>{x with R:=y}):=dA (bm (bm fQ rfl) rfl) (fun _ _=>rfl)
theorem pJ:qH bO 3 (rI .i64) (fun x=>x.Col):=(gN (bh (bh (bh dT rfl) rfl) rfl))
theorem MW:ko bO 3 (rI .i64) (fun x y=>{x with Col:=y}):=dA (bm (bm (bm fQ rfl) rfl) rfl) (fun _ _=>rfl)
theorem rh:qH bO 4 af (fun x=>x.Value):=(bh (bh (bh (bh dT rfl) rfl) rfl) rfl)
theorem vv: ∀S,bO.rc S [.int .i64 0,.int .i64 0,.int .i64 0,.int .i64 0,.int .i64 0,.int .i64 0,.int .u64 0,.string ⟨#[]⟩] ((⟨(0:Int),(0:Int),(0:Int),(0:Int),(⟨(0:Int),(0:Int),(0:Int),[]⟩:ac)⟩:bp)):=fun _=>⟨[.int .i64 0],[.int .i64 0,.int .i64 0,.int .i64 0,.int .i64 0,.int .i64 0,.int .u64 0,.string ⟨#[]⟩],rfl,rfl,⟨[.int .i64 0],[.int .i64 0,.int .i64 0,.int .i64 0,.int .i64 0,.int .u64 0,.string ⟨#[]⟩],rfl,rfl,⟨[.int .i64 0],[.int .i64 0,.int .i64 0,.int .i64 0,.int .u64 0,.string ⟨#[]⟩],rfl,rfl,⟨[.int .i64 0],[.int .i64 0,.int .i64 0,.int .u64 0,.string ⟨#[]⟩],rfl,rfl,bk _⟩⟩⟩⟩
structure bJ where
 Nodes:(List bp)
 deriving DecidableEq,Inhabited
def co:Rp bJ:=qk (gi bO) (fun x=>(x.Nodes))
theorem mj:qH co 0 (gi bO) (fun x=>x.Nodes):=dT
theorem yX:ko co 0 (gi bO) (fun x y=>{x with Nodes:=y}):=dA an (fun _ _=>rfl)
theorem sL: ∀S,co.rc S [.slice none 0 0] ((⟨[]⟩:bJ)):=fun _=>⟨none,0,rfl,dh _,lS _,.inl rfl⟩
structure hU where
 Tag:Int
 Arg:bJ
 deriving DecidableEq,Inhabited
def fG:Rp hU:=qk (cQ (rI .i64) co) (fun x=>(x.Tag,x.Arg))
theorem ug:qH fG 0 (rI .i64) (fun x=>x.Tag):=(gN dT)
theorem Kw:ko fG 0 (rI .i64) (fun x y=>{x with Tag:=y}):=dA fQ (fun _ _=>rfl)
theorem vU:qH fG 1 co (fun x=>x.Arg):=(bh dT rfl)
theorem Kv:ko fG 1 co (fun x y=>{x with Arg:=y}):=dA (bm an rfl) (fun _ _=>rfl)
theorem ED: ∀S,fG.rc S [.int .i64 0,.slice none 0 0] ((⟨(0:Int),(⟨[]⟩:bJ)⟩:hU)):=fun _=>⟨[.int .i64 0],[.slice none 0 0],rfl,rfl,sL _⟩
structure fq where
 Col:Int
 Desc:Bool
 deriving DecidableEq,Inhabited
def fX:Rp fq:=qk (cQ (rI .i64) rB) (fun x=>(x.Col,x.Desc))
theorem vT:qH fX 0 (rI .i64) (fun x=>x.Col):=(gN dT)
theorem SG:qH fX 1 rB (fun x=>x.Desc):=(bh dT rfl)
theorem X7: ∀S,fX.rc S [.int .i64 0,.bool false] ((⟨(0:Int),false⟩:fq)):=fun _=>⟨[.int .i64 0],[.bool false],rfl,rfl,rfl⟩
structure aj where
 Op:Int
 A:Int
 B:Int
 Table:Int
 Kinds:(List Int)
 Left:Bool
 Cond:bJ
 Keys:(List Int)
 Aggs:(List hU)
 Items:(List bJ)
 Order:(List fq)
 Limit:Int
 deriving DecidableEq,Inhabited
def aF:Rp aj:=qk (cQ (rI .i64) (cQ (rI .i64) (cQ (rI .i64) (cQ (rI .i64) (cQ (gi (rI .i64)) (cQ rB (cQ co (cQ (gi (rI .i64)) (cQ (gi fG) (cQ (gi co) (cQ (gi fX) (rI .i64)))))))))))) (fun x=>(x.Op,x.A,x.B,x.Table,x.Kinds,x.Left,x.Cond,x.Keys,x.Aggs,x.Items,x.Order,x.Limit))
theorem oE:qH aF 0 (rI .i64) (fun x=>x.Op):=(gN dT)
theorem tL:ko aF 0 (rI .i64) (fun x y=>{x with Op:=y}):=dA fQ (fun _ _=>rfl)
theorem dS:qH aF 1 (rI .i64) (fun x=>x.A):=(gN (bh dT rfl))
theorem wz:ko aF 1 (rI .i64) (fun x y=>{x with A:=y}):=dA (bm fQ rfl) (fun _ _=>rfl)
theorem kV:qH aF 2 (rI .i64) (fun x=>x.B):=(gN (bh (bh dT rfl) rfl))
theorem tK:ko aF 2 (rI .i64) (fun x y=>{x with B:=y}):=dA (bm (bm fQ rfl) rfl) (fun _ _=>rfl)
theorem m7:qH aF 3 (rI .i64) (fun x=>x.Table):=(gN (bh (bh (bh dT rfl) rfl) rfl))
theorem MS:ko aF 3 (rI .i64) (fun x y=>{x with Table:=y}):=dA (bm (bm (bm fQ rfl) rfl) rfl) (fun _ _=>rfl)
theorem oC:qH aF 4 (gi (rI .i64)) (fun x=>x.Kinds):=(gN (bh (bh (bh (bh dT rfl) rfl) rfl) rfl))
theorem Aw:ko aF 4 (gi (rI .i64)) (fun x y=>{x with Kinds:=y}):=dA (bm (bm (bm (bm fQ rfl) rfl) rfl) rfl) (fun _ _=>rfl)
theorem FO:qH aF 5 rB (fun x=>x.Left):=(gN (bh (bh (bh (bh (bh dT rfl) rfl) rfl) rfl) rfl))
theorem MR:ko aF 5 rB (fun x y=>{x with Left:=y}):=dA (bm (bm (bm (bm (bm fQ rfl) rfl) rfl) rfl) rfl) (fun _ _=>rfl)
theorem lM:qH aF 6 co (fun x=>x.Cond):=(gN (bh (bh (bh (bh (bh (bh dT rfl) rfl) rfl) rfl) rfl) rfl))
theorem wy:ko aF 6 co (fun x y=>{x with Cond:=y}):=dA (bm (bm (bm (bm (bm (bm fQ rfl) rfl) rfl) rfl) rfl) rfl) (fun _ _=>rfl)
theorem m6:qH aF 7 (gi (rI .i64)) (fun x=>x.Keys):=(gN (bh (bh (bh (bh (bh (bh (bh dT rfl) rfl) rfl) rfl) rfl) rfl) rfl))
theorem EV:ko aF 7 (gi (rI .i64)) (fun x y=>{x with Keys:=y}):=dA (bm (bm (bm (bm (bm (bm (bm fQ rfl) rfl) rfl) rfl) rfl) rfl) rfl) (fun _ _=>rfl)
theorem oB:qH aF 8 (gi fG) (fun x=>x.Aggs):=(gN (bh (bh (bh (bh (bh (bh (bh (bh dT rfl) rfl) rfl) rfl) rfl) rfl) rfl) rfl))
theorem EU:ko aF 8 (gi fG) (fun x y=>{x with Aggs:=y}):=dA (bm (bm (bm (bm (bm (bm (bm (bm fQ rfl) rfl) rfl) rfl) rfl) rfl) rfl) rfl) (fun _ _=>rfl)
theorem m5:qH aF 9 (gi co) (fun x=>x.Items):=(gN (bh (bh (bh (bh (bh (bh (bh (bh (bh dT rfl) rfl) rfl) rfl) rfl) rfl) rfl) rfl) rfl))
theorem MQ:ko aF 9 (gi co) (fun x y=>{x with Items:=y}):=dA (bm (bm (bm (bm (bm (bm (bm (bm (bm fQ rfl) rfl) rfl) rfl) rfl) rfl) rfl) rfl) rfl) (fun _ _=>rfl)
theorem lE:qH aF 10 (gi fX) (fun x=>x.Order):=(gN (bh (bh (bh (bh (bh (bh (bh (bh (bh (bh dT rfl) rfl) rfl) rfl) rfl) rfl) rfl) rfl) rfl) rfl))
theorem yc:ko aF 10 (gi fX) (fun x y=>{x with Order:=y}):=dA (bm (bm (bm (bm (bm (bm (bm (bm (bm (bm fQ rfl) rfl) rfl) rfl) rfl) rfl) rfl) rfl) rfl) rfl) (fun _ _=>rfl)
theorem oD:qH aF 11 (rI .i64) (fun x=>x.Limit):=(bh (bh (bh (bh (bh (bh (bh (bh (bh (bh (bh dT rfl) rfl) rfl) rfl) rfl) rfl) rfl) rfl) rfl) rfl) rfl)
theorem Dj:ko aF 11 (rI .i64) (fun x y=>{x with Limit:=y}):=dA (bm (bm (bm (bm (bm (bm (bm (bm (bm (bm (bm an rfl) rfl) rfl) rfl) rfl) rfl) rfl) rfl) rfl) rfl) rfl) (fun _ _=>rfl)
theorem ln: ∀S,aF.rc S [.int .i64 0,.int .i64 0,.int .i64 0,.int .i64 0,.slice none 0 0,.bool false,.slice none 0 0,.slice none 0 0,.slice none 0 0,.slice none 0 0,.slice none 0 0,.int .i64 0] ((⟨(0:Int),(0:Int),(0:Int),(0:Int),[],false,(⟨[]⟩:bJ),[],[],[],[],(0:Int)⟩:aj)):=fun _=>⟨[.int .i64 0],[.int .i64 0,.int .i64 0,.int .i64 0,.slice none 0 0,.bool false,.slice none 0 0,.slice none 0 0,.slice none 0 0,.slice none 0 0,.slice none 0 0,.int .i64 0],rfl,rfl,⟨[.int .i64 0],[.int .i64 0,.int .i64 0,.slice none 0 0,.bool false,.slice none 0 0,.slice none 0 0,.slice none 0 0,.slice none 0 0,.slice none 0 0,.int .i64 0],rfl,rfl,⟨[.int .i64 0],[.int .i64 0,.slice none 0 0,.bool false,.slice none 0 0,.slice none 0 0,.slice none 0 0,.slice none 0 0,.slice none 0 0,.int .i64 0],rfl,rfl,⟨[.int .i64 0],[.slice none 0 0,.bool false,.slice none 0 0,.slice none 0 0,.slice none 0 0,.slice none 0 0,.slice none 0 0,.int .i64 0],rfl,rfl,⟨[.slice none 0 0],[.bool false,.slice none 0 0,.slice none 0 0,.slice none 0 0,.slice none 0 0,.slice none 0 0,.int .i64 0],rfl,⟨none,0,rfl,dh _,lS _,.inl rfl⟩,⟨[.bool false],[.slice none 0 0,.slice none 0 0,.slice none 0 0,.slice none 0 0,.slice none 0 0,.int .i64 0],rfl,rfl,⟨[.slice none 0 0],[.slice none 0 0,.slice none 0 0,.slice none 0 0,.slice none 0 0,.int .i64 0],rfl,sL _,⟨[.slice none 0 0],[.slice none 0 0,.slice none 0 0,.slice none 0 0,.int .i64 0],rfl,⟨none,0,rfl,dh _,lS _,.inl rfl⟩,⟨[.slice none 0 0],[.slice none 0 0,.slice none 0 0,.int .i64 0],rfl,⟨none,0,rfl,dh _,lS _,.inl rfl⟩,⟨[.slice none 0 0],[.slice none 0 0,.int .i64 0],rfl,⟨none,0,rfl,dh _,lS _,.inl rfl⟩,⟨[.slice none 0 0],[.int .i64 0],rfl,⟨none,0,rfl,dh _,lS _,.inl rfl⟩,rfl⟩⟩⟩⟩⟩⟩⟩⟩⟩⟩⟩
structure bc where
 Nodes:(List aj)
 deriving DecidableEq,Inhabited
def bS:Rp bc:=qk (gi aF) (fun x=>(x.Nodes))
theorem iL:qH bS 0 (gi aF) (fun x=>x.Nodes):=dT
theorem MP:ko bS 0 (gi aF) (fun x y=>{x with Nodes:=y}):=dA an (fun _ _=>rfl)
theorem kO: ∀S,bS.rc S [.slice none 0 0] ((⟨[]⟩:bc)):=fun _=>⟨none,0,rfl,dh _,lS _,.inl rfl⟩
structure aE where
 Logic:bc
 kinds:(List (List Int))
 first:(List Int)
 deriving DecidableEq,Inhabited
def bn:Rp aE:=qk (cQ bS (cQ (gi (gi (rI .i64))) (gi (rI .i64)))) (fun x=>(x.Logic,x.kinds,x.first))
theorem wQ:qH bn 0 bS (fun x=>x.Logic):=(gN dT)
theorem Iz:ko bn 0 bS (fun x y=>{x with Logic:=y}):=dA fQ (fun _ _=>rfl)
theorem Jb:qH bn 1 (gi (gi (rI .i64))) (fun x=>x.kinds):=(gN (bh dT rfl))
theorem Iy:ko bn 1 (gi (gi (rI .i64))) (fun x y=>{x with kinds:=y}):=dA (bm fQ rfl) (fun _ _=>rfl)
theorem BI:qH bn 2 (gi (rI .i64)) (fun x=>x.first):=(bh (bh dT rfl) rfl)
theorem Ix:ko bn 2 (gi (rI .i64)) (fun x y=>{x with first:=y}):=dA (bm (bm an rfl) rfl) (fun _ _=>rfl)
theorem MB: ∀S,bn.rc S [.slice none 0 0,.slice none 0 0,.slice none 0 0] ((⟨(⟨[]⟩:bc),[],[]⟩:aE)):=fun _=>⟨[.slice none 0 0],[.slice none 0 0,.slice none 0 0],rfl,kO _,⟨[.slice none 0 0],[.slice none 0 0],rfl,⟨none,0,rfl,dh _,lS _,.inl rfl⟩,⟨none,0,rfl,dh _,lS _,.inl rfl⟩⟩⟩
structure dv where
 Tables:(List (List (List ac)))
 deriving DecidableEq,Inhabited
def jv:Rp dv:=qk (gi (gi (gi af))) (fun x=>(x.Tables))
theorem ri:qH jv 0 (gi (gi (gi af))) (fun x=>x.Tables):=dT
theorem Qq:ko jv 0 (gi (gi (gi af))) (fun x y=>{x with Tables:=y}):=dA an (fun _ _=>rfl)
theorem Ic: ∀S,jv.rc S [.slice none 0 0] ((⟨[]⟩:dv)):=fun _=>⟨none,0,rfl,dh _,lS _,.inl rfl⟩
structure cZ where
 Base:dv
 rows:(List (List (List ac)))
 width:(List Int)
 deriving DecidableEq,Inhabited
def ee:Rp cZ:=qk (cQ jv (cQ (gi (gi (gi af))) (gi (rI .i64)))) (fun x=>(x.Base,x.rows,x.width))
theorem SF:qH ee 0 jv (fun x=>x.Base):=(gN dT)
theorem RQ:ko ee 0 jv (fun x y=>{x with Base:=y}):=dA fQ (fun _ _=>rfl)
theorem RP:ko ee 1 (gi (gi (gi af))) (fun x y=>{x with rows:=y}):=dA (bm fQ rfl) (fun _ _=>rfl)
theorem RO:ko ee 2 (gi (rI .i64)) (fun x y=>{x with width:=y}):=dA (bm (bm an rfl) rfl) (fun _ _=>rfl)
theorem X6: ∀S,ee.rc S [.slice none 0 0,.slice none 0 0,.slice none 0 0] ((⟨(⟨[]⟩:dv),[],[]⟩:cZ)):=fun _=>⟨[.slice none 0 0],[.slice none 0 0,.slice none 0 0],rfl,Ic _,⟨[.slice none 0 0],[.slice none 0 0],rfl,⟨none,0,rfl,dh _,lS _,.inl rfl⟩,⟨none,0,rfl,dh _,lS _,.inl rfl⟩⟩⟩
structure iw where
 Key:(List ac)
 Rows:(List (List ac))
 deriving DecidableEq,Inhabited
def fY:Rp iw:=qk (cQ (gi af) (gi (gi af))) (fun x=>(x.Key,x.Rows))
theorem NL:qH fY 0 (gi af) (fun x=>x.Key):=(gN dT)
theorem MU:ko fY 0 (gi af) (fun x y=>{x with Key:=y}):=dA fQ (fun _ _=>rfl)
theorem NK:qH fY 1 (gi (gi af)) (fun x=>x.Rows):=(bh dT rfl)
theorem MT:ko fY 1 (gi (gi af)) (fun x y=>{x with Rows:=y}):=dA (bm an rfl) (fun _ _=>rfl)
theorem EC: ∀S,fY.rc S [.slice none 0 0,.slice none 0 0] ((⟨[],[]⟩:iw)):=fun _=>⟨[.slice none 0 0],[.slice none 0 0],rfl,⟨none,0,rfl,dh _,lS _,.inl rfl⟩,⟨none,0,rfl,dh _,lS _,.inl rfl⟩⟩
structure eP where
 D:(List Int)
 Below:Bool
 deriving DecidableEq,Inhabited
structure Mi where
 Nodes:Value
def lI:Rp Mi:=qk rV (fun x=>(x.Nodes))
theorem oV:qH lI 0 rV (fun x=>x.Nodes):=dT
def mZ(y:bc)(v0:Value):Mi:=⟨v0⟩
theorem EB: ∀S,lI.rc S [.slice none 0 0] (mZ ((⟨[]⟩:bc)) (aT none 0 0)):=fun _=>⟨rfl,rfl⟩
structure acM where
 Tables:Value
structure Mj where
 Op:Int
 A:Int
 B:Int
 Table:Int
 Kinds:(List Int)
 Left:Bool
 Cond:bJ
 Keys:(List Int)
 Aggs:Value
 Items:(List bJ)
 Order:(List fq)
 Limit:Int
def E3:Rp Mj:=qk (cQ (rI .i64) (cQ (rI .i64) (cQ (rI .i64) (cQ (rI .i64) (cQ (gi (rI .i64)) (cQ rB (cQ co (cQ (gi (rI .i64)) (cQ rV (cQ (gi co) (cQ (gi fX) (rI .i64)))))))))))) (fun x=>(x.Op,x.A,x.B,x.Table,x.Kinds,x.Left,x.Cond,x.Keys,x.Aggs,x.Items,x.Order,x.Limit))
def Fw(y:aj)(v8:Value):Mj:=⟨y.Op,y.A,y.B,y.Table,y.Kinds,y.Left,y.Cond,y.Keys,v8,y.Items,y.Order,y.Limit⟩
structure Gg where
 Op:Int
 A:Int
 B:Int
 Table:Int
 Kinds:(List Int)
 Left:Bool
 Cond:bJ
 Keys:(List Int)
 Aggs:Value
 Items:Value
 Order:(List fq)
 Limit:Int
def lw:Rp Gg:=qk (cQ (rI .i64) (cQ (rI .i64) (cQ (rI .i64) (cQ (rI .i64) (cQ (gi (rI .i64)) (cQ rB (cQ co (cQ (gi (rI .i64)) (cQ rV (cQ rV (cQ (gi fX) (rI .i64)))))))))))) (fun x=>(x.Op,x.A,x.B,x.Table,x.Kinds,x.Left,x.Cond,x.Keys,x.Aggs,x.Items,x.Order,x.Limit))
theorem uf:qH lw 8 rV (fun x=>x.Aggs):=(gN (bh (bh (bh (bh (bh (bh (bh (bh dT rfl) rfl) rfl) rfl) rfl) rfl) rfl) rfl))
theorem ue:qH lw 9 rV (fun x=>x.Items):=(gN (bh (bh (bh (bh (bh (bh (bh (bh (bh dT rfl) rfl) rfl) rfl) rfl) rfl) rfl) rfl) rfl))
def oS(y:aj)(v8:Value)(v9:Value):Gg:=⟨y.Op,y.A,y.B,y.Table,y.Kinds,y.Left,y.Cond,y.Keys,v8,v9,y.Order,y.Limit⟩
theorem sF{S:SH}{cs:List Value}{y:bc}{v0:Value}{xs0:(List aj)}(k0:(gi aF).rc S [v0] xs0)(h:lI.rc S cs (mZ y v0)):bS.rc S cs ((⟨xs0⟩:bc)):=by
 have h0:=h
 exact(by rw [h0.1];exact k0)
theorem BZ{S:SH}{cs:List Value}{y:aj}{v8:Value}{v9:Value}{xs8:(List hU)}(k8:(gi fG).rc S [v8] xs8){xs9:(List bJ)}(k9:(gi co).rc S [v9] xs9)(h:lw.rc S cs (oS y v8 v9)):aF.rc S cs ((⟨y.Op,y.A,y.B,y.Table,y.Kinds,y.Left,y.Cond,y.Keys,xs8,xs9,y.Order,y.Limit⟩:aj)):=by
 obtain⟨a0,b0,e0,h0,a1,b1,e1,h1,a2,b2,e2,h2,a3,b3,e3,h3,a4,b4,e4,h4,a5,b5,e5,h5,a6,b6,e6,h6,a7,b7,e7,h7,a8,b8,e8,h8,a9,b9,e9,h9,a10,b10,e10,h10,h11⟩:=h
 exact⟨a0,b0,e0,h0,a1,b1,e1,h1,a2,b2,e2,h2,a3,b3,e3,h3,a4,b4,e4,h4,a5,b5,e5,h5,a6,b6,e6,h6,a7,b7,e7,h7,a8,b8,e8,(by rw [h8.1];exact k8),a9,b9,e9,(by rw [h9.1];exact k9),a10,b10,e10,h10,h11⟩
theorem oo(y:bc)(u:Value)(v:Value):wb lI lI 0 rV (mZ y u) v (mZ y v):=Iw (yW rfl) rfl
theorem At(y:aj)(v:Value):wb aF E3 8 rV (y) v (Fw y v):=Iw (lu (lu (lu (lu (lu (lu (lu (lu (OM (yW rfl) rfl) rfl) rfl) rfl) rfl) rfl) rfl) rfl) rfl) rfl
theorem ww(y:aj)(v8:Value)(v:Value):wb E3 lw 9 rV (Fw y v8) v (oS y v8 v):=Iw (lu (lu (lu (lu (lu (lu (lu (lu (lu (OM (yW rfl) rfl) rfl) rfl) rfl) rfl) rfl) rfl) rfl) rfl) rfl) rfl
def dD(b:Nat)(x:aE)(i:OI):List OE:=[bx (rH bn [(1,aT (i.h 0).1 (i.h 0).2 x.kinds.length),(2,aT (i.h 1).1 (i.h 1).2 x.first.length)]) 115 b x,dW (gi (rI .i64)) 39 (i.h 0).1 (i.h 0).2 x.kinds,dW (rI .i64) 3 (i.h 1).1 (i.h 1).2 x.first]
def jC(b:Nat)(x:cZ)(i:OI):List OE:=[bx (rH ee [(1,aT (i.h 0).1 (i.h 0).2 x.rows.length),(2,aT (i.h 1).1 (i.h 1).2 x.width.length)]) 96 b x,dW (gi (gi af)) 32 (i.h 0).1 (i.h 0).2 x.rows,dW (rI .i64) 3 (i.h 1).1 (i.h 1).2 x.width]
def gv2:(List ac):=[(⟨(1:Int),(0:Int),(0:Int),[]⟩:ac),(⟨(0:Int),(0:Int),(0:Int),[]⟩:ac),(⟨(1:Int),(1:Int),(0:Int),[]⟩:ac)]
theorem gm2:((2:Nat),([.int .i64 (1),.int .i64 (0),.int .u64 (0),.string ⟨([]:List UInt8).toArray⟩,.int .i64 (0),.int .i64 (0),.int .u64 (0),.string ⟨([]:List UInt8).toArray⟩,.int .i64 (1),.int .i64 (1),.int .u64 (0),.string ⟨([]:List UInt8).toArray⟩]:List Value))∈glob:=by simp [glob]
theorem gr2: ∀S,(vg af 3).rc S ([.int .i64 (1),.int .i64 (0),.int .u64 (0),.string ⟨([]:List UInt8).toArray⟩,.int .i64 (0),.int .i64 (0),.int .u64 (0),.string ⟨([]:List UInt8).toArray⟩,.int .i64 (1),.int .i64 (1),.int .u64 (0),.string ⟨([]:List UInt8).toArray⟩]:List Value) gv2:=fun _=>⟨rfl,⟨[.int .i64 (1),.int .i64 (0),.int .u64 (0),.string ⟨([]:List UInt8).toArray⟩],[.int .i64 (0),.int .i64 (0),.int .u64 (0),.string ⟨([]:List UInt8).toArray⟩,.int .i64 (1),.int .i64 (1),.int .u64 (0),.string ⟨([]:List UInt8).toArray⟩],rfl,⟨[.int .i64 (1)],[.int .i64 (0),.int .u64 (0),.string ⟨([]:List UInt8).toArray⟩],rfl,rfl,⟨[.int .i64 (0)],[.int .u64 (0),.string ⟨([]:List UInt8).toArray⟩],rfl,rfl,⟨[.int .u64 (0)],[.string ⟨([]:List UInt8).toArray⟩],rfl,rfl,rfl⟩⟩⟩,⟨[.int .i64 (0),.int .i64 (0),.int .u64 (0),.string ⟨([]:List UInt8).toArray⟩],[.int .i64 (1),.int .i64 (1),.int .u64 (0),.string ⟨([]:List UInt8).toArray⟩],rfl,⟨[.int .i64 (0)],[.int .i64 (0),.int .u64 (0),.string ⟨([]:List UInt8).toArray⟩],rfl,rfl,⟨[.int .i64 (0)],[.int .u64 (0),.string ⟨([]:List UInt8).toArray⟩],rfl,rfl,⟨[.int .u64 (0)],[.string ⟨([]:List UInt8).toArray⟩],rfl,rfl,rfl⟩⟩⟩,⟨[.int .i64 (1),.int .i64 (1),.int .u64 (0),.string ⟨([]:List UInt8).toArray⟩],[],rfl,⟨[.int .i64 (1)],[.int .i64 (1),.int .u64 (0),.string ⟨([]:List UInt8).toArray⟩],rfl,rfl,⟨[.int .i64 (1)],[.int .u64 (0),.string ⟨([]:List UInt8).toArray⟩],rfl,rfl,⟨[.int .u64 (0)],[.string ⟨([]:List UInt8).toArray⟩],rfl,rfl,rfl⟩⟩⟩,(rfl:_=[])⟩⟩⟩⟩

end Go.Proofs.YtfhhakidodmdfaaGreatDoor

