/- cX of this claim: D. -/
import Derived.Test.YtfhhakidodmdfaaGreatDoorJhV4
set_option linter.all false
namespace Go.Proofs.YtfhhakidodmdfaaGreatDoor
open Go

structure M where
 Kind:Int
 N:Int
 U:Int
 S:eA
 deriving DecidableEq,Inhabited
def ac:Rp M:=kZ (cI (rI .i64) (cI (rI .i64) (cI (rI .u64) rS))) (fun x=>(x.Kind,x.N,x.U,x.S))
theorem bU:kl ac 0 (rI .i64) (fun x=>x.Kind):=(dQ cv)
theorem jK:gp ac 0 (rI .i64) (fun x y=>{x with Kind:=y}):=cM dX (fun _ _=>rfl)
theorem dg:kl ac 1 (rI .i64) (fun x=>x.N):=(dQ (aX cv rfl))
theorem kJ:gp ac 1 (rI .i64) (fun x y=>{x with N:=y}):=cM (bb dX rfl) (fun _ _=>rfl)
theorem i5:kl ac 2 (rI .u64) (fun x=>x.U):=(dQ (aX (aX cv rfl) rfl))
theorem tf:gp ac 2 (rI .u64) (fun x y=>{x with U:=y}):=cM (bb (bb dX rfl) rfl) (fun _ _=>rfl)
theorem gI:kl ac 3 rS (fun x=>x.S):=(aX (aX (aX cv rfl) rfl) rfl)
theorem C5:gp ac 3 rS (fun x y=>{x with S:=y}):=cM (bb (bb (bb am rfl) rfl) rfl) (fun _ _=>rfl)
theorem aZ: ∀S,ac.rc S [.int .i64 0,.int .i64 0,.int .u64 0,.string ⟨#[]⟩] ((⟨(0:Int),(0:Int),(0:Int),[]⟩:M)):=fun _=>⟨[.int .i64 0],[.int .i64 0,.int .u64 0,.string ⟨#[]⟩],rfl,rfl,⟨[.int .i64 0],[.int .u64 0,.string ⟨#[]⟩],rfl,rfl,⟨[.int .u64 0],[.string ⟨#[]⟩],rfl,rfl,rfl⟩⟩⟩
structure cu where
 Tag:Int
 L:Int
 R:Int
 Col:Int
 Value:M
 deriving DecidableEq,Inhabited
def bD:Rp cu:=kZ (cI (rI .i64) (cI (rI .i64) (cI (rI .i64) (cI (rI .i64) ac)))) (fun x=>(x.Tag,x.L,x.R,x.Col,x.Value))
theorem fc:kl bD 0 (rI .i64) (fun x=>x.Tag):=(dQ cv)
theorem Df:gp bD 0 (rI .i64) (fun x y=>{x with Tag:=y}):=cM dX (fun _ _=>rfl)
theorem DA:kl bD 1 (rI .i64) (fun x=>x.L):=(dQ (aX cv rfl))
theorem De:gp bD 1 (rI .i64) (fun x y=>{x with L:=y}):=cM (bb dX rfl) (fun _ _=>rfl)
theorem Dz:kl bD 2 (rI .i64) (fun x=>x.R):=(dQ (aX (aX cv rfl) rfl))
theorem Dd:gp bD 2 (rI .i64) (fun x y=>{x with R:=y}):=cM (bb (bb dX rfl) rfl) (fun _ _=>rfl)
theorem kP:kl bD 3 (rI .i64) (fun x=>x.Col):=(dQ (aX (aX (aX cv rfl) rfl) rfl))
theorem Dc:gp bD 3 (rI .i64) (fun x y=>{x with Col:=y}):=cM (bb (bb (bb dX rfl) rfl) rfl) (fun _ _=>rfl)
theorem n9:kl bD 4 ac (fun x=>x.Value):=(aX (aX (aX (aX cv rfl) rfl) rfl) rfl)
theorem ra: ∀S,bD.rc S [.int .i64 0,.int .i64 0,.int .i64 0,.int .i64 0,.int .i64 0,.int .i64 0,.int .u64 0,.string ⟨#[]⟩] ((⟨(0:Int),(0:Int),(0:Int),(0:Int),(⟨(0:Int),(0:Int),(0:Int),[]⟩:M)⟩:cu)):=fun _=>⟨[.int .i64 0],[.int .i64 0,.int .i64 0,.int .i64 0,.int .i64 0,.int .i64 0,.int .u64 0,.string ⟨#[]⟩],rfl,rfl,⟨[.int .i64 0],[.int .i64 0,.int .i64 0,.int .i64 0,.int .i64 0,.int .u64 0,.string ⟨#[]⟩],rfl,rfl,⟨[.int .i64 0],[.int .i64 0,.int .i64 0,.int .i64 0,.int .u64 0,.string ⟨#[]⟩],rfl,rfl,⟨[.int .i64 0],[.int .i64 0,.int .i64 0,.int .u64 0,.string ⟨#[]⟩],rfl,rfl,aZ _⟩⟩⟩⟩
structure cK where
 Nodes:(List cu)
 deriving DecidableEq,Inhabited
def bY:Rp cK:=kZ (ea bD) (fun x=>(x.Nodes))
theorem j9:kl bY 0 (ea bD) (fun x=>x.Nodes):=cv
theorem sd:gp bY 0 (ea bD) (fun x y=>{x with Nodes:=y}):=cM am (fun _ _=>rfl)
theorem oM: ∀S,bY.rc S [.slice none 0 0] ((⟨[]⟩:cK)):=fun _=>⟨none,0,rfl,ia _,gx _,.inl rfl⟩
structure kz where
 Tag:Int
 Arg:cK
 deriving DecidableEq,Inhabited
def ej:Rp kz:=kZ (cI (rI .i64) bY) (fun x=>(x.Tag,x.Arg))
theorem oa:kl ej 0 (rI .i64) (fun x=>x.Tag):=(dQ cv)
theorem BI:gp ej 0 (rI .i64) (fun x y=>{x with Tag:=y}):=cM dX (fun _ _=>rfl)
theorem rN:kl ej 1 bY (fun x=>x.Arg):=(aX cv rfl)
theorem BH:gp ej 1 bY (fun x y=>{x with Arg:=y}):=cM (bb am rfl) (fun _ _=>rfl)
theorem Ah: ∀S,ej.rc S [.int .i64 0,.slice none 0 0] ((⟨(0:Int),(⟨[]⟩:cK)⟩:kz)):=fun _=>⟨[.int .i64 0],[.slice none 0 0],rfl,rfl,oM _⟩
structure ik where
 Col:Int
 Desc:Bool
 deriving DecidableEq,Inhabited
def eK:Rp ik:=kZ (cI (rI .i64) rB) (fun x=>(x.Col,x.Desc))
theorem uF:kl eK 0 (rI .i64) (fun x=>x.Col):=(dQ cv)
theorem GO:kl eK 1 rB (fun x=>x.Desc):=(aX cv rfl)
theorem Lg: ∀S,eK.rc S [.int .i64 0,.bool false] ((⟨(0:Int),false⟩:ik)):=fun _=>⟨[.int .i64 0],[.bool false],rfl,rfl,rfl⟩
structure aC where
 Op:Int
 A:Int
 B:Int
 Table:Int
 Kinds:(List Int)
 Left:Bool
 Cond:cK
 Keys:(List Int)
 Aggs:(List kz)
 Items:(List cK)
 Order:(List ik)
 Limit:Int
 deriving DecidableEq,Inhabited
def aM:Rp aC:=kZ (cI (rI .i64) (cI (rI .i64) (cI (rI .i64) (cI (rI .i64) (cI (ea (rI .i64)) (cI rB (cI bY (cI (ea (rI .i64)) (cI (ea ej) (cI (ea bY) (cI (ea eK) (rI .i64)))))))))))) (fun x=>(x.Op,x.A,x.B,x.Table,x.Kinds,x.Left,x.Cond,x.Keys,x.Aggs,x.Items,x.Order,x.Limit))
theorem lZ:kl aM 0 (rI .i64) (fun x=>x.Op):=(dQ cv)
theorem xA:gp aM 0 (rI .i64) (fun x y=>{x with Op:=y}):=cM dX (fun _ _=>rfl)
theorem cW:kl aM 1 (rI .i64) (fun x=>x.A):=(dQ (aX cv rfl))
theorem xz:gp aM 1 (rI .i64) (fun x y=>{x with A:=y}):=cM (bb dX rfl) (fun _ _=>rfl)
theorem gJ:kl aM 2 (rI .i64) (fun x=>x.B):=(dQ (aX (aX cv rfl) rfl))
theorem tk:gp aM 2 (rI .i64) (fun x y=>{x with B:=y}):=cM (bb (bb dX rfl) rfl) (fun _ _=>rfl)
theorem lY:kl aM 3 (rI .i64) (fun x=>x.Table):=(dQ (aX (aX (aX cv rfl) rfl) rfl))
theorem C9:gp aM 3 (rI .i64) (fun x y=>{x with Table:=y}):=cM (bb (bb (bb dX rfl) rfl) rfl) (fun _ _=>rfl)
theorem kO:kl aM 4 (ea (rI .i64)) (fun x=>x.Kinds):=(dQ (aX (aX (aX (aX cv rfl) rfl) rfl) rfl))
theorem th:gp aM 4 (ea (rI .i64)) (fun x y=>{x with Kinds:=y}):=cM (bb (bb (bb (bb dX rfl) rfl) rfl) rfl) (fun _ _=>rfl)
theorem yb:kl aM 5 rB (fun x=>x.Left):=(dQ (aX (aX (aX (aX (aX cv rfl) rfl) rfl) rfl) rfl))
theorem C8:gp aM 5 rB (fun x y=>{x with Left:=y}):=cM (bb (bb (bb (bb (bb dX rfl) rfl) rfl) rfl) rfl) (fun _ _=>rfl)
theorem kN:kl aM 6 bY (fun x=>x.Cond):=(dQ (aX (aX (aX (aX (aX (aX cv rfl) rfl) rfl) rfl) rfl) rfl))
theorem tg:gp aM 6 bY (fun x y=>{x with Cond:=y}):=cM (bb (bb (bb (bb (bb (bb dX rfl) rfl) rfl) rfl) rfl) rfl) (fun _ _=>rfl)
theorem jT:kl aM 7 (ea (rI .i64)) (fun x=>x.Keys):=(dQ (aX (aX (aX (aX (aX (aX (aX cv rfl) rfl) rfl) rfl) rfl) rfl) rfl))
theorem xy:gp aM 7 (ea (rI .i64)) (fun x y=>{x with Keys:=y}):=cM (bb (bb (bb (bb (bb (bb (bb dX rfl) rfl) rfl) rfl) rfl) rfl) rfl) (fun _ _=>rfl)
theorem lX:kl aM 8 (ea ej) (fun x=>x.Aggs):=(dQ (aX (aX (aX (aX (aX (aX (aX (aX cv rfl) rfl) rfl) rfl) rfl) rfl) rfl) rfl))
theorem xx:gp aM 8 (ea ej) (fun x y=>{x with Aggs:=y}):=cM (bb (bb (bb (bb (bb (bb (bb (bb dX rfl) rfl) rfl) rfl) rfl) rfl) rfl) rfl) (fun _ _=>rfl)
theorem kM:kl aM 9 (ea bY) (fun x=>x.Items):=(dQ (aX (aX (aX (aX (aX (aX (aX (aX (aX cv rfl) rfl) rfl) rfl) rfl) rfl) rfl) rfl) rfl))
theorem C7:gp aM 9 (ea bY) (fun x y=>{x with Items:=y}):=cM (bb (bb (bb (bb (bb (bb (bb (bb (bb dX rfl) rfl) rfl) rfl) rfl) rfl) rfl) rfl) rfl) (fun _ _=>rfl)
theorem mL:kl aM 10 (ea eK) (fun x=>x.Order):=(dQ (aX (aX (aX (aX (aX (aX (aX (aX (aX (aX cv rfl) rfl) rfl) rfl) rfl) rfl) rfl) rfl) rfl) rfl))
theorem vX:gp aM 10 (ea eK) (fun x y=>{x with Order:=y}):=cM (bb (bb (bb (bb (bb (bb (bb (bb (bb (bb dX rfl) rfl) rfl) rfl) rfl) rfl) rfl) rfl) rfl) rfl) (fun _ _=>rfl)
theorem oY:kl aM 11 (rI .i64) (fun x=>x.Limit):=(aX (aX (aX (aX (aX (aX (aX (aX (aX (aX (aX cv rfl) rfl) rfl) rfl) rfl) rfl) rfl) rfl) rfl) rfl) rfl)
theorem BG:gp aM 11 (rI .i64) (fun x y=>{x with Limit:=y}):=cM (bb (bb (bb (bb (bb (bb (bb (bb (bb (bb (bb am rfl) rfl) rfl) rfl) rfl) rfl) rfl) rfl) rfl) rfl) rfl) (fun _ _=>rfl)
theorem k6: ∀S,aM.rc S [.int .i64 0,.int .i64 0,.int .i64 0,.int .i64 0,.slice none 0 0,.bool false,.slice none 0 0,.slice none 0 0,.slice none 0 0,.slice none 0 0,.slice none 0 0,.int .i64 0] ((⟨(0:Int),(0:Int),(0:Int),(0:Int),[],false,(⟨[]⟩:cK),[],[],[],[],(0:Int)⟩:aC)):=fun _=>⟨[.int .i64 0],[.int .i64 0,.int .i64 0,.int .i64 0,.slice none 0 0,.bool false,.slice none 0 0,.slice none 0 0,.slice none 0 0,.slice none 0 0,.slice none 0 0,.int .i64 0],rfl,rfl,⟨[.int .i64 0],[.int .i64 0,.int .i64 0,.slice none 0 0,.bool false,.slice none 0 0,.slice none 0 0,.slice none 0 0,.slice none 0 0,.slice none 0 0,.int .i64 0],rfl,rfl,⟨[.int .i64 0],[.int .i64 0,.slice none 0 0,.bool false,.slice none 0 0,.slice none 0 0,.slice none 0 0,.slice none 0 0,.slice none 0 0,.int .i64 0],rfl,rfl,⟨[.int .i64 0],[.slice none 0 0,.bool false,.slice none 0 0,.slice none 0 0,.slice none 0 0,.slice none 0 0,.slice none 0 0,.int .i64 0],rfl,rfl,⟨[.slice none 0 0],[.bool false,.slice none 0 0,.slice none 0 0,.slice none 0 0,.slice none 0 0,.slice none 0 0,.int .i64 0],rfl,⟨none,0,rfl,ia _,gx _,.inl rfl⟩,⟨[.bool false],[.slice none 0 0,.slice none 0 0,.slice none 0 0,.slice none 0 0,.slice none 0 0,.int .i64 0],rfl,rfl,⟨[.slice none 0 0],[.slice none 0 0,.slice none 0 0,.slice none 0 0,.slice none 0 0,.int .i64 0],rfl,oM _,⟨[.slice none 0 0],[.slice none 0 0,.slice none 0 0,.slice none 0 0,.int .i64 0],rfl,⟨none,0,rfl,ia _,gx _,.inl rfl⟩,⟨[.slice none 0 0],[.slice none 0 0,.slice none 0 0,.int .i64 0],rfl,⟨none,0,rfl,ia _,gx _,.inl rfl⟩,⟨[.slice none 0 0],[.slice none 0 0,.int .i64 0],rfl,⟨none,0,rfl,ia _,gx _,.inl rfl⟩,⟨[.slice none 0 0],[.int .i64 0],rfl,⟨none,0,rfl,ia _,gx _,.inl rfl⟩,rfl⟩⟩⟩⟩⟩⟩⟩⟩⟩⟩⟩
structure dM where
 Nodes:(List aC)
 deriving DecidableEq,Inhabited
def cT:Rp dM:=kZ (ea aM) (fun x=>(x.Nodes))
theorem jS:kl cT 0 (ea aM) (fun x=>x.Nodes):=cv
theorem C6:gp cT 0 (ea aM) (fun x y=>{x with Nodes:=y}):=cM am (fun _ _=>rfl)
theorem nJ: ∀S,cT.rc S [.slice none 0 0] ((⟨[]⟩:dM)):=fun _=>⟨none,0,rfl,ia _,gx _,.inl rfl⟩
structure aF where
 Logic:dM
 kinds:(List (List Int))
 first:(List Int)
 deriving DecidableEq,Inhabited
def bc:Rp aF:=kZ (cI cT (cI (ea (ea (rI .i64))) (ea (rI .i64)))) (fun x=>(x.Logic,x.kinds,x.first))
theorem qj:kl bc 0 cT (fun x=>x.Logic):=(dQ cv)
theorem Au:gp bc 0 cT (fun x y=>{x with Logic:=y}):=cM dX (fun _ _=>rfl)
theorem AN:kl bc 1 (ea (ea (rI .i64))) (fun x=>x.kinds):=(dQ (aX cv rfl))
theorem At:gp bc 1 (ea (ea (rI .i64))) (fun x y=>{x with kinds:=y}):=cM (bb dX rfl) (fun _ _=>rfl)
theorem uE:kl bc 2 (ea (rI .i64)) (fun x=>x.first):=(aX (aX cv rfl) rfl)
theorem As:gp bc 2 (ea (rI .i64)) (fun x y=>{x with first:=y}):=cM (bb (bb am rfl) rfl) (fun _ _=>rfl)
theorem CR: ∀S,bc.rc S [.slice none 0 0,.slice none 0 0,.slice none 0 0] ((⟨(⟨[]⟩:dM),[],[]⟩:aF)):=fun _=>⟨[.slice none 0 0],[.slice none 0 0,.slice none 0 0],rfl,nJ _,⟨[.slice none 0 0],[.slice none 0 0],rfl,⟨none,0,rfl,ia _,gx _,.inl rfl⟩,⟨none,0,rfl,ia _,gx _,.inl rfl⟩⟩⟩
structure eU where
 Tables:(List (List (List M)))
 deriving DecidableEq,Inhabited
def fN:Rp eU:=kZ (ea (ea (ea ac))) (fun x=>(x.Tables))
theorem ka:kl fN 0 (ea (ea (ea ac))) (fun x=>x.Tables):=cv
theorem Fq:gp fN 0 (ea (ea (ea ac))) (fun x y=>{x with Tables:=y}):=cM am (fun _ _=>rfl)
theorem Ag: ∀S,fN.rc S [.slice none 0 0] ((⟨[]⟩:eU)):=fun _=>⟨none,0,rfl,ia _,gx _,.inl rfl⟩
structure cU where
 Base:eU
 rows:(List (List (List M)))
 width:(List Int)
 deriving DecidableEq,Inhabited
def dn:Rp cU:=kZ (cI fN (cI (ea (ea (ea ac))) (ea (rI .i64)))) (fun x=>(x.Base,x.rows,x.width))
theorem GN:kl dn 0 fN (fun x=>x.Base):=(dQ cv)
theorem Gt:gp dn 0 fN (fun x y=>{x with Base:=y}):=cM dX (fun _ _=>rfl)
theorem Gs:gp dn 1 (ea (ea (ea ac))) (fun x y=>{x with rows:=y}):=cM (bb dX rfl) (fun _ _=>rfl)
theorem Gr:gp dn 2 (ea (rI .i64)) (fun x y=>{x with width:=y}):=cM (bb (bb am rfl) rfl) (fun _ _=>rfl)
theorem Lf: ∀S,dn.rc S [.slice none 0 0,.slice none 0 0,.slice none 0 0] ((⟨(⟨[]⟩:eU),[],[]⟩:cU)):=fun _=>⟨[.slice none 0 0],[.slice none 0 0,.slice none 0 0],rfl,Ag _,⟨[.slice none 0 0],[.slice none 0 0],rfl,⟨none,0,rfl,ia _,gx _,.inl rfl⟩,⟨none,0,rfl,ia _,gx _,.inl rfl⟩⟩⟩
structure il where
 Key:(List M)
 Rows:(List (List M))
 deriving DecidableEq,Inhabited
def d9:Rp il:=kZ (cI (ea ac) (ea (ea ac))) (fun x=>(x.Key,x.Rows))
theorem Dy:kl d9 0 (ea ac) (fun x=>x.Key):=(dQ cv)
theorem Db:gp d9 0 (ea ac) (fun x y=>{x with Key:=y}):=cM dX (fun _ _=>rfl)
theorem Dx:kl d9 1 (ea (ea ac)) (fun x=>x.Rows):=(aX cv rfl)
theorem Da:gp d9 1 (ea (ea ac)) (fun x y=>{x with Rows:=y}):=cM (bb am rfl) (fun _ _=>rfl)
theorem xi: ∀S,d9.rc S [.slice none 0 0,.slice none 0 0] ((⟨[],[]⟩:il)):=fun _=>⟨[.slice none 0 0],[.slice none 0 0],rfl,⟨none,0,rfl,ia _,gx _,.inl rfl⟩,⟨none,0,rfl,ia _,gx _,.inl rfl⟩⟩
structure bC where
 Name:eA
 Kind:Int
 deriving DecidableEq,Inhabited
def dm:Rp bC:=kZ (cI rS (rI .i64)) (fun x=>(x.Name,x.Kind))
theorem mM:kl dm 0 rS (fun x=>x.Name):=(dQ cv)
theorem oZ:kl dm 1 (rI .i64) (fun x=>x.Kind):=(aX cv rfl)
theorem pu: ∀S,dm.rc S [.string ⟨#[]⟩,.int .i64 0] ((⟨[],(0:Int)⟩:bC)):=fun _=>⟨[.string ⟨#[]⟩],[.int .i64 0],rfl,rfl,rfl⟩
structure bw where
 Name:eA
 Columns:(List bC)
 Keys:(List Int)
 deriving DecidableEq,Inhabited
def cS:Rp bw:=kZ (cI rS (cI (ea dm) (ea (rI .i64)))) (fun x=>(x.Name,x.Columns,x.Keys))
theorem lW:kl cS 0 rS (fun x=>x.Name):=(dQ cv)
theorem ew:kl cS 1 (ea dm) (fun x=>x.Columns):=(dQ (aX cv rfl))
theorem jR:kl cS 2 (ea (rI .i64)) (fun x=>x.Keys):=(aX (aX cv rfl) rfl)
theorem xh: ∀S,cS.rc S [.string ⟨#[]⟩,.slice none 0 0,.slice none 0 0] ((⟨[],[],[]⟩:bw)):=fun _=>⟨[.string ⟨#[]⟩],[.slice none 0 0,.slice none 0 0],rfl,rfl,⟨[.slice none 0 0],[.slice none 0 0],rfl,⟨none,0,rfl,ia _,gx _,.inl rfl⟩,⟨none,0,rfl,ia _,gx _,.inl rfl⟩⟩⟩
structure cY where
 Tables:(List bw)
 deriving DecidableEq,Inhabited
def fU:Rp cY:=kZ (ea cS) (fun x=>(x.Tables))
theorem du:kl fU 0 (ea cS) (fun x=>x.Tables):=cv
structure yz where
 word:eA
 kind:Int
 deriving DecidableEq,Inhabited
def p7:Rp yz:=kZ (cI rS (rI .i64)) (fun x=>(x.word,x.kind))
theorem FG:kl p7 0 rS (fun x=>x.word):=(dQ cv)
theorem FF:kl p7 1 (rI .i64) (fun x=>x.kind):=(aX cv rfl)
theorem HT: ∀S,p7.rc S [.string ⟨#[]⟩,.int .i64 0] ((⟨[],(0:Int)⟩:yz)):=fun _=>⟨[.string ⟨#[]⟩],[.int .i64 0],rfl,rfl,rfl⟩
structure Cu where
 Nodes:Value
def kK:Rp Cu:=kZ rV (fun x=>(x.Nodes))
theorem AM:kl kK 0 rV (fun x=>x.Nodes):=cv
def lR(y:dM)(v0:Value):Cu:=⟨v0⟩
theorem CQ: ∀S,kK.rc S [.slice none 0 0] (lR ((⟨[]⟩:dM)) (aQ none 0 0)):=fun _=>⟨rfl,rfl⟩
structure Cv where
 Op:Int
 A:Int
 B:Int
 Table:Int
 Kinds:(List Int)
 Left:Bool
 Cond:cK
 Keys:(List Int)
 Aggs:Value
 Items:(List cK)
 Order:(List ik)
 Limit:Int
def xD:Rp Cv:=kZ (cI (rI .i64) (cI (rI .i64) (cI (rI .i64) (cI (rI .i64) (cI (ea (rI .i64)) (cI rB (cI bY (cI (ea (rI .i64)) (cI rV (cI (ea bY) (cI (ea eK) (rI .i64)))))))))))) (fun x=>(x.Op,x.A,x.B,x.Table,x.Kinds,x.Left,x.Cond,x.Keys,x.Aggs,x.Items,x.Order,x.Limit))
def xS(y:aC)(v8:Value):Cv:=⟨y.Op,y.A,y.B,y.Table,y.Kinds,y.Left,y.Cond,y.Keys,v8,y.Items,y.Order,y.Limit⟩
structure yy where
 Op:Int
 A:Int
 B:Int
 Table:Int
 Kinds:(List Int)
 Left:Bool
 Cond:cK
 Keys:(List Int)
 Aggs:Value
 Items:Value
 Order:(List ik)
 Limit:Int
def g9:Rp yy:=kZ (cI (rI .i64) (cI (rI .i64) (cI (rI .i64) (cI (rI .i64) (cI (ea (rI .i64)) (cI rB (cI bY (cI (ea (rI .i64)) (cI rV (cI rV (cI (ea eK) (rI .i64)))))))))))) (fun x=>(x.Op,x.A,x.B,x.Table,x.Kinds,x.Left,x.Cond,x.Keys,x.Aggs,x.Items,x.Order,x.Limit))
theorem n8:kl g9 8 rV (fun x=>x.Aggs):=(dQ (aX (aX (aX (aX (aX (aX (aX (aX cv rfl) rfl) rfl) rfl) rfl) rfl) rfl) rfl))
theorem n7:kl g9 9 rV (fun x=>x.Items):=(dQ (aX (aX (aX (aX (aX (aX (aX (aX (aX cv rfl) rfl) rfl) rfl) rfl) rfl) rfl) rfl) rfl))
def j6(y:aC)(v8:Value)(v9:Value):yy:=⟨y.Op,y.A,y.B,y.Table,y.Kinds,y.Left,y.Cond,y.Keys,v8,v9,y.Order,y.Limit⟩
theorem wI{S:SH}{cs:List Value}{y:dM}{v0:Value}{xs0:(List aC)}(k0:(ea aM).rc S [v0] xs0)(h:kK.rc S cs (lR y v0)):cT.rc S cs ((⟨xs0⟩:dM)):=by
 have h0:=h
 exact(by rw [h0.1];exact k0)
theorem uR{S:SH}{cs:List Value}{y:aC}{v8:Value}{v9:Value}{xs8:(List kz)}(k8:(ea ej).rc S [v8] xs8){xs9:(List cK)}(k9:(ea bY).rc S [v9] xs9)(h:g9.rc S cs (j6 y v8 v9)):aM.rc S cs ((⟨y.Op,y.A,y.B,y.Table,y.Kinds,y.Left,y.Cond,y.Keys,xs8,xs9,y.Order,y.Limit⟩:aC)):=by
 obtain⟨a0,b0,e0,h0,a1,b1,e1,h1,a2,b2,e2,h2,a3,b3,e3,h3,a4,b4,e4,h4,a5,b5,e5,h5,a6,b6,e6,h6,a7,b7,e7,h7,a8,b8,e8,h8,a9,b9,e9,h9,a10,b10,e10,h10,h11⟩:=h
 exact⟨a0,b0,e0,h0,a1,b1,e1,h1,a2,b2,e2,h2,a3,b3,e3,h3,a4,b4,e4,h4,a5,b5,e5,h5,a6,b6,e6,h6,a7,b7,e7,h7,a8,b8,e8,(by rw [h8.1];exact k8),a9,b9,e9,(by rw [h9.1];exact k9),a10,b10,e10,h10,h11⟩
theorem ri(y:dM)(u:Value)(v:Value):pP kK kK 0 rV (lR y u) v (lR y v):=Ar (sb rfl) rfl
theorem td(y:aC)(v:Value):pP aM xD 8 rV (y) v (xS y v):=Ar (gZ (gZ (gZ (gZ (gZ (gZ (gZ (gZ (Ee (sb rfl) rfl) rfl) rfl) rfl) rfl) rfl) rfl) rfl) rfl) rfl
theorem p5(y:aC)(v8:Value)(v:Value):pP xD g9 9 rV (xS y v8) v (j6 y v8 v):=Ar (gZ (gZ (gZ (gZ (gZ (gZ (gZ (gZ (gZ (Ee (sb rfl) rfl) rfl) rfl) rfl) rfl) rfl) rfl) rfl) rfl) rfl) rfl
def cP(b:Nat)(x:aF)(i:OI):List OE:=[bx (rH bc [(1,aQ (i.h 0).1 (i.h 0).2 x.kinds.length),(2,aQ (i.h 1).1 (i.h 1).2 x.first.length)]) 115 b x,db (ea (rI .i64)) 39 (i.h 0).1 (i.h 0).2 x.kinds,db (rI .i64) 3 (i.h 1).1 (i.h 1).2 x.first]
def fG(b:Nat)(x:cU)(i:OI):List OE:=[bx (rH dn [(1,aQ (i.h 0).1 (i.h 0).2 x.rows.length),(2,aQ (i.h 1).1 (i.h 1).2 x.width.length)]) 96 b x,db (ea (ea ac)) 32 (i.h 0).1 (i.h 0).2 x.rows,db (rI .i64) 3 (i.h 1).1 (i.h 1).2 x.width]
def LR:(List yz):=[(⟨[98,111,111,108],(1:Int)⟩:yz),(⟨[105,110,116],(2:Int)⟩:yz),(⟨[116,101,120,116],(3:Int)⟩:yz)]
theorem gm0:((0:Nat),([.string ⟨([98,111,111,108]:List UInt8).toArray⟩,.int .i64 (1),.string ⟨([105,110,116]:List UInt8).toArray⟩,.int .i64 (2),.string ⟨([116,101,120,116]:List UInt8).toArray⟩,.int .i64 (3)]:List Value))∈glob:=by simp [glob]
theorem gr0: ∀S,(lF p7 3).rc S ([.string ⟨([98,111,111,108]:List UInt8).toArray⟩,.int .i64 (1),.string ⟨([105,110,116]:List UInt8).toArray⟩,.int .i64 (2),.string ⟨([116,101,120,116]:List UInt8).toArray⟩,.int .i64 (3)]:List Value) LR:=fun _=>⟨rfl,⟨[.string ⟨([98,111,111,108]:List UInt8).toArray⟩,.int .i64 (1)],[.string ⟨([105,110,116]:List UInt8).toArray⟩,.int .i64 (2),.string ⟨([116,101,120,116]:List UInt8).toArray⟩,.int .i64 (3)],rfl,⟨[.string ⟨([98,111,111,108]:List UInt8).toArray⟩],[.int .i64 (1)],rfl,rfl,rfl⟩,⟨[.string ⟨([105,110,116]:List UInt8).toArray⟩,.int .i64 (2)],[.string ⟨([116,101,120,116]:List UInt8).toArray⟩,.int .i64 (3)],rfl,⟨[.string ⟨([105,110,116]:List UInt8).toArray⟩],[.int .i64 (2)],rfl,rfl,rfl⟩,⟨[.string ⟨([116,101,120,116]:List UInt8).toArray⟩,.int .i64 (3)],[],rfl,⟨[.string ⟨([116,101,120,116]:List UInt8).toArray⟩],[.int .i64 (3)],rfl,rfl,rfl⟩,(rfl:_=[])⟩⟩⟩⟩
def M5:(List eA):=[[83,69,76,69,67,84],[68,73,83,84,73,78,67,84],[70,82,79,77],[76,69,70,84],[74,79,73,78],[79,78],[87,72,69,82,69],[71,82,79,85,80],[66,89],[72,65,86,73,78,71],[85,78,73,79,78],[65,76,76],[79,82,68,69,82],[76,73,77,73,84],[65,83,67],[68,69,83,67],[65,83],[65,78,68],[79,82],[78,79,84],[73,83],[78,85,76,76],[84,82,85,69],[70,65,76,83,69],[67,79,85,78,84],[83,85,77],[77,73,78],[77,65,88]]
theorem gm1:((1:Nat),([.string ⟨([83,69,76,69,67,84]:List UInt8).toArray⟩,.string ⟨([68,73,83,84,73,78,67,84]:List UInt8).toArray⟩,.string ⟨([70,82,79,77]:List UInt8).toArray⟩,.string ⟨([76,69,70,84]:List UInt8).toArray⟩,.string ⟨([74,79,73,78]:List UInt8).toArray⟩,.string ⟨([79,78]:List UInt8).toArray⟩,.string ⟨([87,72,69,82,69]:List UInt8).toArray⟩,.string ⟨([71,82,79,85,80]:List UInt8).toArray⟩,.string ⟨([66,89]:List UInt8).toArray⟩,.string ⟨([72,65,86,73,78,71]:List UInt8).toArray⟩,.string ⟨([85,78,73,79,78]:List UInt8).toArray⟩,.string ⟨([65,76,76]:List UInt8).toArray⟩,.string ⟨([79,82,68,69,82]:List UInt8).toArray⟩,.string ⟨([76,73,77,73,84]:List UInt8).toArray⟩,.string ⟨([65,83,67]:List UInt8).toArray⟩,.string ⟨([68,69,83,67]:List UInt8).toArray⟩,.string ⟨([65,83]:List UInt8).toArray⟩,.string ⟨([65,78,68]:List UInt8).toArray⟩,.string ⟨([79,82]:List UInt8).toArray⟩,.string ⟨([78,79,84]:List UInt8).toArray⟩,.string ⟨([73,83]:List UInt8).toArray⟩,.string ⟨([78,85,76,76]:List UInt8).toArray⟩,.string ⟨([84,82,85,69]:List UInt8).toArray⟩,.string ⟨([70,65,76,83,69]:List UInt8).toArray⟩,.string ⟨([67,79,85,78,84]:List UInt8).toArray⟩,.string ⟨([83,85,77]:List UInt8).toArray⟩,.string ⟨([77,73,78]:List UInt8).toArray⟩,.string ⟨([77,65,88]:List UInt8).toArray⟩]:List Value))∈glob:=by simp [glob]
theorem gr1: ∀S,(lF rS 28).rc S ([.string ⟨([83,69,76,69,67,84]:List UInt8).toArray⟩,.string ⟨([68,73,83,84,73,78,67,84]:List UInt8).toArray⟩,.string ⟨([70,82,79,77]:List UInt8).toArray⟩,.string ⟨([76,69,70,84]:List UInt8).toArray⟩,.string ⟨([74,79,73,78]:List UInt8).toArray⟩,.string ⟨([79,78]:List UInt8).toArray⟩,.string ⟨([87,72,69,82,69]:List UInt8).toArray⟩,.string ⟨([71,82,79,85,80]:List UInt8).toArray⟩,.string ⟨([66,89]:List UInt8).toArray⟩,.string ⟨([72,65,86,73,78,71]:List UInt8).toArray⟩,.string ⟨([85,78,73,79,78]:List UInt8).toArray⟩,.string ⟨([65,76,76]:List UInt8).toArray⟩,.string ⟨([79,82,68,69,82]:List UInt8).toArray⟩,.string ⟨([76,73,77,73,84]:List UInt8).toArray⟩,.string ⟨([65,83,67]:List UInt8).toArray⟩,.string ⟨([68,69,83,67]:List UInt8).toArray⟩,.string ⟨([65,83]:List UInt8).toArray⟩,.string ⟨([65,78,68]:List UInt8).toArray⟩,.string ⟨([79,82]:List UInt8).toArray⟩,.string ⟨([78,79,84]:List UInt8).toArray⟩,.string ⟨([73,83]:List UInt8).toArray⟩,.string ⟨([78,85,76,76]:List UInt8).toArray⟩,.string ⟨([84,82,85,69]:List UInt8).toArray⟩,.string ⟨([70,65,76,83,69]:List UInt8).toArray⟩,.string ⟨([67,79,85,78,84]:List UInt8).toArray⟩,.string ⟨([83,85,77]:List UInt8).toArray⟩,.string ⟨([77,73,78]:List UInt8).toArray⟩,.string ⟨([77,65,88]:List UInt8).toArray⟩]:List Value) M5:=fun _=>⟨rfl,⟨[.string ⟨([83,69,76,69,67,84]:List UInt8).toArray⟩],[.string ⟨([68,73,83,84,73,78,67,84]:List UInt8).toArray⟩,.string ⟨([70,82,79,77]:List UInt8).toArray⟩,.string ⟨([76,69,70,84]:List UInt8).toArray⟩,.string ⟨([74,79,73,78]:List UInt8).toArray⟩,.string ⟨([79,78]:List UInt8).toArray⟩,.string ⟨([87,72,69,82,69]:List UInt8).toArray⟩,.string ⟨([71,82,79,85,80]:List UInt8).toArray⟩,.string ⟨([66,89]:List UInt8).toArray⟩,.string ⟨([72,65,86,73,78,71]:List UInt8).toArray⟩,.string ⟨([85,78,73,79,78]:List UInt8).toArray⟩,.string ⟨([65,76,76]:List UInt8).toArray⟩,.string ⟨([79,82,68,69,82]:List UInt8).toArray⟩,.string ⟨([76,73,77,73,84]:List UInt8).toArray⟩,.string ⟨([65,83,67]:List UInt8).toArray⟩,.string ⟨([68,69,83,67]:List UInt8).toArray⟩,.string ⟨([65,83]:List UInt8).toArray⟩,.string ⟨([65,78,68]:List UInt8).toArray⟩,.string ⟨([79,82]:List UInt8).toArray⟩,.string ⟨([78,79,84]:List UInt8).toArray⟩,.string ⟨([73,83]:List UInt8).toArray⟩,.string ⟨([78,85,76,76]:List UInt8).toArray⟩,.string ⟨([84,82,85,69]:List UInt8).toArray⟩,.string ⟨([70,65,76,83,69]:List UInt8).toArray⟩,.string ⟨([67,79,85,78,84]:List UInt8).toArray⟩,.string ⟨([83,85,77]:List UInt8).toArray⟩,.string ⟨([77,73,78]:List UInt8).toArray⟩,.string ⟨([77,65,88]:List UInt8).toArray⟩],rfl,rfl,⟨[.string ⟨([68,73,83,84,73,78,67,84]:List UInt8).toArray⟩],[.string ⟨([70,82,79,77]:List UInt8).toArray⟩,.string ⟨([76,69,70,84]:List UInt8).toArray⟩,.string ⟨([74,79,73,78]:List UInt8).toArray⟩,.string ⟨([79,78]:List UInt8).toArray⟩,.string ⟨([87,72,69,82,69]:List UInt8).toArray⟩,.string ⟨([71,82,79,85,80]:List UInt8).toArray⟩,.string ⟨([66,89]:List UInt8).toArray⟩,.string ⟨([72,65,86,73,78,71]:List UInt8).toArray⟩,.string ⟨([85,78,73,79,78]:List UInt8).toArray⟩,.string ⟨([65,76,76]:List UInt8).toArray⟩,.string ⟨([79,82,68,69,82]:List UInt8).toArray⟩,.string ⟨([76,73,77,73,84]:List UInt8).toArray⟩,.string ⟨([65,83,67]:List UInt8).toArray⟩,.string ⟨([68,69,83,67]:List UInt8).toArray⟩,.string ⟨([65,83]:List UInt8).toArray⟩,.string ⟨([65,78,68]:List UInt8).toArray⟩,.string ⟨([79,82]:List UInt8).toArray⟩,.string ⟨([78,79,84]:List UInt8).toArray⟩,.string ⟨([73,83]:List UInt8).toArray⟩,.string ⟨([78,85,76,76]:List UInt8).toArray⟩,.string ⟨([84,82,85,69]:List UInt8).toArray⟩,.string ⟨([70,65,76,83,69]:List UInt8).toArray⟩,.string ⟨([67,79,85,78,84]:List UInt8).toArray⟩,.string ⟨([83,85,77]:List UInt8).toArray⟩,.string ⟨([77,73,78]:List UInt8).toArray⟩,.string ⟨([77,65,88]:List UInt8).toArray⟩],rfl,rfl,⟨[.string ⟨([70,82,79,77]:List UInt8).toArray⟩],[.string ⟨([76,69,70,84]:List UInt8).toArray⟩,.string ⟨([74,79,73,78]:List UInt8).toArray⟩,.string ⟨([79,78]:List UInt8).toArray⟩,.string ⟨([87,72,69,82,69]:List UInt8).toArray⟩,.string ⟨([71,82,79,85,80]:List UInt8).toArray⟩,.string ⟨([66,89]:List UInt8).toArray⟩,.string ⟨([72,65,86,73,78,71]:List UInt8).toArray⟩,.string ⟨([85,78,73,79,78]:List UInt8).toArray⟩,.string ⟨([65,76,76]:List UInt8).toArray⟩,.string ⟨([79,82,68,69,82]:List UInt8).toArray⟩,.string ⟨([76,73,77,73,84]:List UInt8).toArray⟩,.string ⟨([65,83,67]:List UInt8).toArray⟩,.string ⟨([68,69,83,67]:List UInt8).toArray⟩,.string ⟨([65,83]:List UInt8).toArray⟩,.string ⟨([65,78,68]:List UInt8).toArray⟩,.string ⟨([79,82]:List UInt8).toArray⟩,.string ⟨([78,79,84]:List UInt8).toArray⟩,.string ⟨([73,83]:List UInt8).toArray⟩,.string ⟨([78,85,76,76]:List UInt8).toArray⟩,.string ⟨([84,82,85,69]:List UInt8).toArray⟩,.string ⟨([70,65,76,83,69]:List UInt8).toArray⟩,.string ⟨([67,79,85,78,84]:List UInt8).toArray⟩,.string ⟨([83,85,77]:List UInt8).toArray⟩,.string ⟨([77,73,78]:List UInt8).toArray⟩,.string ⟨([77,65,88]:List UInt8).toArray⟩],rfl,rfl,⟨[.string ⟨([76,69,70,84]:List UInt8).toArray⟩],[.string ⟨([74,79,73,78]:List UInt8).toArray⟩,.string ⟨([79,78]:List UInt8).toArray⟩,.string ⟨([87,72,69,82,69]:List UInt8).toArray⟩,.string ⟨([71,82,79,85,80]:List UInt8).toArray⟩,.string ⟨([66,89]:List UInt8).toArray⟩,.string ⟨([72,65,86,73,78,71]:List UInt8).toArray⟩,.string ⟨([85,78,73,79,78]:List UInt8).toArray⟩,.string ⟨([65,76,76]:List UInt8).toArray⟩,.string ⟨([79,82,68,69,82]:List UInt8).toArray⟩,.string ⟨([76,73,77,73,84]:List UInt8).toArray⟩,.string ⟨([65,83,67]:List UInt8).toArray⟩,.string ⟨([68,69,83,67]:List UInt8).toArray⟩,.string ⟨([65,83]:List UInt8).toArray⟩,.string ⟨([65,78,68]:List UInt8).toArray⟩,.string ⟨([79,82]:List UInt8).toArray⟩,.string ⟨([78,79,84]:List UInt8).toArray⟩,.string ⟨([73,83]:List UInt8).toArray⟩,.string ⟨([78,85,76,76]:List UInt8).toArray⟩,.string ⟨([84,82,85,69]:List UInt8).toArray⟩,.string ⟨([70,65,76,83,69]:List UInt8).toArray⟩,.string ⟨([67,79,85,78,84]:List UInt8).toArray⟩,.string ⟨([83,85,77]:List UInt8).toArray⟩,.string ⟨([77,73,78]:List UInt8).toArray⟩,.string ⟨([77,65,88]:List UInt8).toArray⟩],rfl,rfl,⟨[.string ⟨([74,79,73,78]:List UInt8).toArray⟩],[.string ⟨([79,78]:List UInt8).toArray⟩,.string ⟨([87,72,69,82,69]:List UInt8).toArray⟩,.string ⟨([71,82,79,85,80]:List UInt8).toArray⟩,.string ⟨([66,89]:List UInt8).toArray⟩,.string ⟨([72,65,86,73,78,71]:List UInt8).toArray⟩,.string ⟨([85,78,73,79,78]:List UInt8).toArray⟩,.string ⟨([65,76,76]:List UInt8).toArray⟩,.string ⟨([79,82,68,69,82]:List UInt8).toArray⟩,.string ⟨([76,73,77,73,84]:List UInt8).toArray⟩,.string ⟨([65,83,67]:List UInt8).toArray⟩,.string ⟨([68,69,83,67]:List UInt8).toArray⟩,.string ⟨([65,83]:List UInt8).toArray⟩,.string ⟨([65,78,68]:List UInt8).toArray⟩,.string ⟨([79,82]:List UInt8).toArray⟩,.string ⟨([78,79,84]:List UInt8).toArray⟩,.string ⟨([73,83]:List UInt8).toArray⟩,.string ⟨([78,85,76,76]:List UInt8).toArray⟩,.string ⟨([84,82,85,69]:List UInt8).toArray⟩,.string ⟨([70,65,76,83,69]:List UInt8).toArray⟩,.string ⟨([67,79,85,78,84]:List UInt8).toArray⟩,.string ⟨([83,85,77]:List UInt8).toArray⟩,.string ⟨([77,73,78]:List UInt8).toArray⟩,.string ⟨([77,65,88]:List UInt8).toArray⟩],rfl,rfl,⟨[.string ⟨([79,78]:List UInt8).toArray⟩],[.string ⟨([87,72,69,82,69]:List UInt8).toArray⟩,.string ⟨([71,82,79,85,80]:List UInt8).toArray⟩,.string ⟨([66,89]:List UInt8).toArray⟩,.string ⟨([72,65,86,73,78,71]:List UInt8).toArray⟩,.string ⟨([85,78,73,79,78]:List UInt8).toArray⟩,.string ⟨([65,76,76]:List UInt8).toArray⟩,.string ⟨([79,82,68,69,82]:List UInt8).toArray⟩,.string ⟨([76,73,77,73,84]:List UInt8).toArray⟩,.string ⟨([65,83,67]:List UInt8).toArray⟩,.string ⟨([68,69,83,67]:List UInt8).toArray⟩,.string ⟨([65,83]:List UInt8).toArray⟩,.string ⟨([65,78,68]:List UInt8).toArray⟩,.string ⟨([79,82]:List UInt8).toArray⟩,.string ⟨([78,79,84]:List UInt8).toArray⟩,.string ⟨([73,83]:List UInt8).toArray⟩,.string ⟨([78,85,76,76]:List UInt8).toArray⟩,.string ⟨([84,82,85,69]:List UInt8).toArray⟩,.string ⟨([70,65,76,83,69]:List UInt8).toArray⟩,.string ⟨([67,79,85,78,84]:List UInt8).toArray⟩,.string ⟨([83,85,77]:List UInt8).toArray⟩,.string ⟨([77,73,78]:List UInt8).toArray⟩,.string ⟨([77,65,88]:List UInt8).toArray⟩],rfl,rfl,⟨[.string ⟨([87,72,69,82,69]:List UInt8).toArray⟩],[.string ⟨([71,82,79,85,80]:List UInt8).toArray⟩,.string ⟨([66,89]:List UInt8).toArray⟩,.string ⟨([72,65,86,73,78,71]:List UInt8).toArray⟩,.string ⟨([85,78,73,79,78]:List UInt8).toArray⟩,.string ⟨([65,76,76]:List UInt8).toArray⟩,.string ⟨([79,82,68,69,82]:List UInt8).toArray⟩,.string ⟨([76,73,77,73,84]:List UInt8).toArray⟩,.string ⟨([65,83,67]:List UInt8).toArray⟩,.string ⟨([68,69,83,67]:List UInt8).toArray⟩,.string ⟨([65,83]:List UInt8).toArray⟩,.string ⟨([65,78,68]:List UInt8).toArray⟩,.string ⟨([79,82]:List UInt8).toArray⟩,.string ⟨([78,79,84]:List UInt8).toArray⟩,.string ⟨([73,83]:List UInt8).toArray⟩,.string ⟨([78,85,76,76]:List UInt8).toArray⟩,.string ⟨([84,82,85,69]:List UInt8).toArray⟩,.string ⟨([70,65,76,83,69]:List UInt8).toArray⟩,.string ⟨([67,79,85,78,84]:List UInt8).toArray⟩,.string ⟨([83,85,77]:List UInt8).toArray⟩,.string ⟨([77,73,78]:List UInt8).toArray⟩,.string ⟨([77,65,88]:List UInt8).toArray⟩],rfl,rfl,⟨[.string ⟨([71,82,79,85,80]:List UInt8).toArray⟩],[.string ⟨([66,89]:List UInt8).toArray⟩,.string ⟨([72,65,86,73,78,71]:List UInt8).toArray⟩,.string ⟨([85,78,73,79,78]:List UInt8).toArray⟩,.string ⟨([65,76,76]:List UInt8).toArray⟩,.string ⟨([79,82,68,69,82]:List UInt8).toArray⟩,.string ⟨([76,73,77,73,84]:List UInt8).toArray⟩,.string ⟨([65,83,67]:List UInt8).toArray⟩,.string ⟨([68,69,83,67]:List UInt8).toArray⟩,.string ⟨([65,83]:List UInt8).toArray⟩,.string ⟨([65,78,68]:List UInt8).toArray⟩,.string ⟨([79,82]:List UInt8).toArray⟩,.string ⟨([78,79,84]:List UInt8).toArray⟩,.string ⟨([73,83]:List UInt8).toArray⟩,.string ⟨([78,85,76,76]:List UInt8).toArray⟩,.string ⟨([84,82,85,69]:List UInt8).toArray⟩,.string ⟨([70,65,76,83,69]:List UInt8).toArray⟩,.string ⟨([67,79,85,78,84]:List UInt8).toArray⟩,.string ⟨([83,85,77]:List UInt8).toArray⟩,.string ⟨([77,73,78]:List UInt8).toArray⟩,.string ⟨([77,65,88]:List UInt8).toArray⟩],rfl,rfl,⟨[.string ⟨([66,89]:List UInt8).toArray⟩],[.string ⟨([72,65,86,73,78,71]:List UInt8).toArray⟩,.string ⟨([85,78,73,79,78]:List UInt8).toArray⟩,.string ⟨([65,76,76]:List UInt8).toArray⟩,.string ⟨([79,82,68,69,82]:List UInt8).toArray⟩,.string ⟨([76,73,77,73,84]:List UInt8).toArray⟩,.string ⟨([65,83,67]:List UInt8).toArray⟩,.string ⟨([68,69,83,67]:List UInt8).toArray⟩,.string ⟨([65,83]:List UInt8).toArray⟩,.string ⟨([65,78,68]:List UInt8).toArray⟩,.string ⟨([79,82]:List UInt8).toArray⟩,.string ⟨([78,79,84]:List UInt8).toArray⟩,.string ⟨([73,83]:List UInt8).toArray⟩,.string ⟨([78,85,76,76]:List UInt8).toArray⟩,.string ⟨([84,82,85,69]:List UInt8).toArray⟩,.string ⟨([70,65,76,83,69]:List UInt8).toArray⟩,.string ⟨([67,79,85,78,84]:List UInt8).toArray⟩,.string ⟨([83,85,77]:List UInt8).toArray⟩,.string ⟨([77,73,78]:List UInt8).toArray⟩,.string ⟨([77,65,88]:List UInt8).toArray⟩],rfl,rfl,⟨[.string ⟨([72,65,86,73,78,71]:List UInt8).toArray⟩],[.string ⟨([85,78,73,79,78]:List UInt8).toArray⟩,.string ⟨([65,76,76]:List UInt8).toArray⟩,.string ⟨([79,82,68,69,82]:List UInt8).toArray⟩,.string ⟨([76,73,77,73,84]:List UInt8).toArray⟩,.string ⟨([65,83,67]:List UInt8).toArray⟩,.string ⟨([68,69,83,67]:List UInt8).toArray⟩,.string ⟨([65,83]:List UInt8).toArray⟩,.string ⟨([65,78,68]:List UInt8).toArray⟩,.string ⟨([79,82]:List UInt8).toArray⟩,.string ⟨([78,79,84]:List UInt8).toArray⟩,.string ⟨([73,83]:List UInt8).toArray⟩,.string ⟨([78,85,76,76]:List UInt8).toArray⟩,.string ⟨([84,82,85,69]:List UInt8).toArray⟩,.string ⟨([70,65,76,83,69]:List UInt8).toArray⟩,.string ⟨([67,79,85,78,84]:List UInt8).toArray⟩,.string ⟨([83,85,77]:List UInt8).toArray⟩,.string ⟨([77,73,78]:List UInt8).toArray⟩,.string ⟨([77,65,88]:List UInt8).toArray⟩],rfl,rfl,⟨[.string ⟨([85,78,73,79,78]:List UInt8).toArray⟩],[.string ⟨([65,76,76]:List UInt8).toArray⟩,.string ⟨([79,82,68,69,82]:List UInt8).toArray⟩,.string ⟨([76,73,77,73,84]:List UInt8).toArray⟩,.string ⟨([65,83,67]:List UInt8).toArray⟩,.string ⟨([68,69,83,67]:List UInt8).toArray⟩,.string ⟨([65,83]:List UInt8).toArray⟩,.string ⟨([65,78,68]:List UInt8).toArray⟩,.string ⟨([79,82]:List UInt8).toArray⟩,.string ⟨([78,79,84]:List UInt8).toArray⟩,.string ⟨([73,83]:List UInt8).toArray⟩,.string ⟨([78,85,76,76]:List UInt8).toArray⟩,.string ⟨([84,82,85,69]:List UInt8).toArray⟩,.string ⟨([70,65,76,83,69]:List UInt8).toArray⟩,.string ⟨([67,79,85,78,84]:List UInt8).toArray⟩,.string ⟨([83,85,77]:List UInt8).toArray⟩,.string ⟨([77,73,78]:List UInt8).toArray⟩,.string ⟨([77,65,88]:List UInt8).toArray⟩],rfl,rfl,⟨[.string ⟨([65,76,76]:List UInt8).toArray⟩],[.string ⟨([79,82,68,69,82]:List UInt8).toArray⟩,.string ⟨([76,73,77,73,84]:List UInt8).toArray⟩,.string ⟨([65,83,67]:List UInt8).toArray⟩,.string ⟨([68,69,83,67]:List UInt8).toArray⟩,.string ⟨([65,83]:List UInt8).toArray⟩,.string ⟨([65,78,68]:List UInt8).toArray⟩,.string ⟨([79,82]:List UInt8).toArray⟩,.string ⟨([78,79,84]:List UInt8).toArray⟩,.string ⟨([73,83]:List UInt8).toArray⟩,.string ⟨([78,85,76,76]:List UInt8).toArray⟩,.string ⟨([84,82,85,69]:List UInt8).toArray⟩,.string ⟨([70,65,76,83,69]:List UInt8).toArray⟩,.string ⟨([67,79,85,78,84]:List UInt8).toArray⟩,.string ⟨([83,85,77]:List UInt8).toArray⟩,.string ⟨([77,73,78]:List UInt8).toArray⟩,.string ⟨([77,65,88]:List UInt8).toArray⟩],rfl,rfl,⟨[.string ⟨([79,82,68,69,82]:List UInt8).toArray⟩],[.string ⟨([76,73,77,73,84]:List UInt8).toArray⟩,.string ⟨([65,83,67]:List UInt8).toArray⟩,.string ⟨([68,69,83,67]:List UInt8).toArray⟩,.string ⟨([65,83]:List UInt8).toArray⟩,.string ⟨([65,78,68]:List UInt8).toArray⟩,.string ⟨([79,82]:List UInt8).toArray⟩,.string ⟨([78,79,84]:List UInt8).toArray⟩,.string ⟨([73,83]:List UInt8).toArray⟩,.string ⟨([78,85,76,76]:List UInt8).toArray⟩,.string ⟨([84,82,85,69]:List UInt8).toArray⟩,.string ⟨([70,65,76,83,69]:List UInt8).toArray⟩,.string ⟨([67,79,85,78,84]:List UInt8).toArray⟩,.string ⟨([83,85,77]:List UInt8).toArray⟩,.string ⟨([77,73,78]:List UInt8).toArray⟩,.string ⟨([77,65,88]:List UInt8).toArray⟩],rfl,rfl,⟨[.string ⟨([76,73,77,73,84]:List UInt8).toArray⟩],[.string ⟨([65,83,67]:List UInt8).toArray⟩,.string ⟨([68,69,83,67]:List UInt8).toArray⟩,.string ⟨([65,83]:List UInt8).toArray⟩,.string ⟨([65,78,68]:List UInt8).toArray⟩,.string ⟨([79,82]:List UInt8).toArray⟩,.string ⟨([78,79,84]:List UInt8).toArray⟩,.string ⟨([73,83]:List UInt8).toArray⟩,.string ⟨([78,85,76,76]:List UInt8).toArray⟩,.string ⟨([84,82,85,69]:List UInt8).toArray⟩,.string ⟨([70,65,76,83,69]:List UInt8).toArray⟩,.string ⟨([67,79,85,78,84]:List UInt8).toArray⟩,.string ⟨([83,85,77]:List UInt8).toArray⟩,.string ⟨([77,73,78]:List UInt8).toArray⟩,.string ⟨([77,65,88]:List UInt8).toArray⟩],rfl,rfl,⟨[.string ⟨([65,83,67]:List UInt8).toArray⟩],[.string ⟨([68,69,83,67]:List UInt8).toArray⟩,.string ⟨([65,83]:List UInt8).toArray⟩,.string ⟨([65,78,68]:List UInt8).toArray⟩,.string ⟨([79,82]:List UInt8).toArray⟩,.string ⟨([78,79,84]:List UInt8).toArray⟩,.string ⟨([73,83]:List UInt8).toArray⟩,.string ⟨([78,85,76,76]:List UInt8).toArray⟩,.string ⟨([84,82,85,69]:List UInt8).toArray⟩,.string ⟨([70,65,76,83,69]:List UInt8).toArray⟩,.string ⟨([67,79,85,78,84]:List UInt8).toArray⟩,.string ⟨([83,85,77]:List UInt8).toArray⟩,.string ⟨([77,73,78]:List UInt8).toArray⟩,.string ⟨([77,65,88]:List UInt8).toArray⟩],rfl,rfl,⟨[.string ⟨([68,69,83,67]:List UInt8).toArray⟩],[.string ⟨([65,83]:List UInt8).toArray⟩,.string ⟨([65,78,68]:List UInt8).toArray⟩,.string ⟨([79,82]:List UInt8).toArray⟩,.string ⟨([78,79,84]:List UInt8).toArray⟩,.string ⟨([73,83]:List UInt8).toArray⟩,.string ⟨([78,85,76,76]:List UInt8).toArray⟩,.string ⟨([84,82,85,69]:List UInt8).toArray⟩,.string ⟨([70,65,76,83,69]:List UInt8).toArray⟩,.string ⟨([67,79,85,78,84]:List UInt8).toArray⟩,.string ⟨([83,85,77]:List UInt8).toArray⟩,.string ⟨([77,73,78]:List UInt8).toArray⟩,.string ⟨([77,65,88]:List UInt8).toArray⟩],rfl,rfl,⟨[.string ⟨([65,83]:List UInt8).toArray⟩],[.string ⟨([65,78,68]:List UInt8).toArray⟩,.string ⟨([79,82]:List UInt8).toArray⟩,.string ⟨([78,79,84]:List UInt8).toArray⟩,.string ⟨([73,83]:List UInt8).toArray⟩,.string ⟨([78,85,76,76]:List UInt8).toArray⟩,.string ⟨([84,82,85,69]:List UInt8).toArray⟩,.string ⟨([70,65,76,83,69]:List UInt8).toArray⟩,.string ⟨([67,79,85,78,84]:List UInt8).toArray⟩,.string ⟨([83,85,77]:List UInt8).toArray⟩,.string ⟨([77,73,78]:List UInt8).toArray⟩,.string ⟨([77,65,88]:List UInt8).toArray⟩],rfl,rfl,⟨[.string ⟨([65,78,68]:List UInt8).toArray⟩],[.string ⟨([79,82]:List UInt8).toArray⟩,.string ⟨([78,79,84]:List UInt8).toArray⟩,.string ⟨([73,83]:List UInt8).toArray⟩,.string ⟨([78,85,76,76]:List UInt8).toArray⟩,.string ⟨([84,82,85,69]:List UInt8).toArray⟩,.string ⟨([70,65,76,83,69]:List UInt8).toArray⟩,.string ⟨([67,79,85,78,84]:List UInt8).toArray⟩,.string ⟨([83,85,77]:List UInt8).toArray⟩,.string ⟨([77,73,78]:List UInt8).toArray⟩,.string ⟨([77,65,88]:List UInt8).toArray⟩],rfl,rfl,⟨[.string ⟨([79,82]:List UInt8).toArray⟩],[.string ⟨([78,79,84]:List UInt8).toArray⟩,.string ⟨([73,83]:List UInt8).toArray⟩,.string ⟨([78,85,76,76]:List UInt8).toArray⟩,.string ⟨([84,82,85,69]:List UInt8).toArray⟩,.string ⟨([70,65,76,83,69]:List UInt8).toArray⟩,.string ⟨([67,79,85,78,84]:List UInt8).toArray⟩,.string ⟨([83,85,77]:List UInt8).toArray⟩,.string ⟨([77,73,78]:List UInt8).toArray⟩,.string ⟨([77,65,88]:List UInt8).toArray⟩],rfl,rfl,⟨[.string ⟨([78,79,84]:List UInt8).toArray⟩],[.string ⟨([73,83]:List UInt8).toArray⟩,.string ⟨([78,85,76,76]:List UInt8).toArray⟩,.string ⟨([84,82,85,69]:List UInt8).toArray⟩,.string ⟨([70,65,76,83,69]:List UInt8).toArray⟩,.string ⟨([67,79,85,78,84]:List UInt8).toArray⟩,.string ⟨([83,85,77]:List UInt8).toArray⟩,.string ⟨([77,73,78]:List UInt8).toArray⟩,.string ⟨([77,65,88]:List UInt8).toArray⟩],rfl,rfl,⟨[.string ⟨([73,83]:List UInt8).toArray⟩],[.string ⟨([78,85,76,76]:List UInt8).toArray⟩,.string ⟨([84,82,85,69]:List UInt8).toArray⟩,.string ⟨([70,65,76,83,69]:List UInt8).toArray⟩,.string ⟨([67,79,85,78,84]:List UInt8).toArray⟩,.string ⟨([83,85,77]:List UInt8).toArray⟩,.string ⟨([77,73,78]:List UInt8).toArray⟩,.string ⟨([77,65,88]:List UInt8).toArray⟩],rfl,rfl,⟨[.string ⟨([78,85,76,76]:List UInt8).toArray⟩],[.string ⟨([84,82,85,69]:List UInt8).toArray⟩,.string ⟨([70,65,76,83,69]:List UInt8).toArray⟩,.string ⟨([67,79,85,78,84]:List UInt8).toArray⟩,.string ⟨([83,85,77]:List UInt8).toArray⟩,.string ⟨([77,73,78]:List UInt8).toArray⟩,.string ⟨([77,65,88]:List UInt8).toArray⟩],rfl,rfl,⟨[.string ⟨([84,82,85,69]:List UInt8).toArray⟩],[.string ⟨([70,65,76,83,69]:List UInt8).toArray⟩,.string ⟨([67,79,85,78,84]:List UInt8).toArray⟩,.string ⟨([83,85,77]:List UInt8).toArray⟩,.string ⟨([77,73,78]:List UInt8).toArray⟩,.string ⟨([77,65,88]:List UInt8).toArray⟩],rfl,rfl,⟨[.string ⟨([70,65,76,83,69]:List UInt8).toArray⟩],[.string ⟨([67,79,85,78,84]:List UInt8).toArray⟩,.string ⟨([83,85,77]:List UInt8).toArray⟩,.string ⟨([77,73,78]:List UInt8).toArray⟩,.string ⟨([77,65,88]:List UInt8).toArray⟩],rfl,rfl,⟨[.string ⟨([67,79,85,78,84]:List UInt8).toArray⟩],[.string ⟨([83,85,77]:List UInt8).toArray⟩,.string ⟨([77,73,78]:List UInt8).toArray⟩,.string ⟨([77,65,88]:List UInt8).toArray⟩],rfl,rfl,⟨[.string ⟨([83,85,77]:List UInt8).toArray⟩],[.string ⟨([77,73,78]:List UInt8).toArray⟩,.string ⟨([77,65,88]:List UInt8).toArray⟩],rfl,rfl,⟨[.string ⟨([77,73,78]:List UInt8).toArray⟩],[.string ⟨([77,65,88]:List UInt8).toArray⟩],rfl,rfl,⟨[.string ⟨([77,65,88]:List UInt8).toArray⟩],[],rfl,rfl,(rfl:_=[])⟩⟩⟩⟩⟩⟩⟩⟩⟩⟩⟩⟩⟩⟩⟩⟩⟩⟩⟩⟩⟩⟩⟩⟩⟩⟩⟩⟩⟩
def Qg:(List M):=[(⟨(1:Int),(0:Int),(0:Int),[]⟩:M),(⟨(0:Int),(0:Int),(0:Int),[]⟩:M),(⟨(1:Int),(1:Int),(0:Int),[]⟩:M)]
theorem gm2:((2:Nat),([.int .i64 (1),.int .i64 (0),.int .u64 (0),.string ⟨([]:List UInt8).toArray⟩,.int .i64 (0),.int .i64 (0),.int .u64 (0),.string ⟨([]:List UInt8).toArray⟩,.int .i64 (1),.int .i64 (1),.int .u64 (0),.string ⟨([]:List UInt8).toArray⟩]:List Value))∈glob:=by simp [glob]
theorem gr2: ∀S,(lF ac 3).rc S ([.int .i64 (1),.int .i64 (0),.int .u64 (0),.string ⟨([]:List UInt8).toArray⟩,.int .i64 (0),.int .i64 (0),.int .u64 (0),.string ⟨([]:List UInt8).toArray⟩,.int .i64 (1),.int .i64 (1),.int .u64 (0),.string ⟨([]:List UInt8).toArray⟩]:List Value) Qg:=fun _=>⟨rfl,⟨[.int .i64 (1),.int .i64 (0),.int .u64 (0),.string ⟨([]:List UInt8).toArray⟩],[.int .i64 (0),.int .i64 (0),.int .u64 (0),.string ⟨([]:List UInt8).toArray⟩,.int .i64 (1),.int .i64 (1),.int .u64 (0),.string ⟨([]:List UInt8).toArray⟩],rfl,⟨[.int .i64 (1)],[.int .i64 (0),.int .u64 (0),.string ⟨([]:List UInt8).toArray⟩],rfl,rfl,⟨[.int .i64 (0)],[.int .u64 (0),.string ⟨([]:List UInt8).toArray⟩],rfl,rfl,⟨[.int .u64 (0)],[.string ⟨([]:List UInt8).toArray⟩],rfl,rfl,rfl⟩⟩⟩,⟨[.int .i64 (0),.int .i64 (0),.int .u64 (0),.string ⟨([]:List UInt8).toArray⟩],[.int .i64 (1),.int .i64 (1),.int .u64 (0),.string ⟨([]:List UInt8).toArray⟩],rfl,⟨[.int .i64 (0)],[.int .i64 (0),.int .u64 (0),.string ⟨([]:List UInt8).toArray⟩],rfl,rfl,⟨[.int .i64 (0)],[.int .u64 (0),.string ⟨([]:List UInt8).toArray⟩],rfl,rfl,⟨[.int .u64 (0)],[.string ⟨([]:List UInt8).toArray⟩],rfl,rfl,rfl⟩⟩⟩,⟨[.int .i64 (1),.int .i64 (1),.int .u64 (0),.string ⟨([]:List UInt8).toArray⟩],[],rfl,⟨[.int .i64 (1)],[.int .i64 (1),.int .u64 (0),.string ⟨([]:List UInt8).toArray⟩],rfl,rfl,⟨[.int .i64 (1)],[.int .u64 (0),.string ⟨([]:List UInt8).toArray⟩],rfl,rfl,⟨[.int .u64 (0)],[.string ⟨([]:List UInt8).toArray⟩],rfl,rfl,rfl⟩⟩⟩,(rfl:_=[])⟩⟩⟩⟩

end Go.Proofs.YtfhhakidodmdfaaGreatDoor

