/- cP of this claim: D. -/
import Derived.Test.YtfhhakidodmdfaaGreatDoorJgV3
import Derived.Test.YtfhhakidodmdfaaGreatDoorJgV4
set_option linter.all false
namespace Go.Proofs.YtfhhakidodmdfaaGreatDoor
open Go

structure ac where
 Kind:Int
 N:Int
 U:Int
 S:xb
 deriving DecidableEq,Inhabited
def af:Rp ac:=qc (cO (rI .i64) (cO (rI .i64) (cO (rI .u64) rS))) (fun x=>(x.Kind,x.N,x.U,x.S))
theorem cQ:qu af 0 (rI .i64) (fun x=>x.Kind):=(gC dP)
theorem mD:jU af 0 (rI .i64) (fun x y=>{x with Kind:=y}):=dg fE (fun _ _=>rfl)
theorem ft:qu af 1 (rI .i64) (fun x=>x.N):=(gC (bh dP rfl))
theorem pp:jU af 1 (rI .i64) (fun x y=>{x with N:=y}):=dg (bg fE rfl) (fun _ _=>rfl)
theorem qS:qu af 2 (rI .u64) (fun x=>x.U):=(gC (bh (bh dP rfl) rfl))
theorem zY:jU af 2 (rI .u64) (fun x y=>{x with U:=y}):=dg (bg (bg fE rfl) rfl) (fun _ _=>rfl)
theorem oh:qu af 3 rS (fun x=>x.S):=(bh (bh (bh dP rfl) rfl) rfl)
theorem Mg:jU af 3 rS (fun x y=>{x with S:=y}):=dg (bg (bg (bg an rfl) rfl) rfl) (fun _ _=>rfl)
theorem bj: ∀S,af.rc S [.int .i64 0,.int .i64 0,.int .u64 0,.string ⟨#[]⟩] ((⟨(0:Int),(0:Int),(0:Int),[]⟩:ac)):=fun _=>⟨[.int .i64 0],[.int .i64 0,.int .u64 0,.string ⟨#[]⟩],rfl,rfl,⟨[.int .i64 0],[.int .u64 0,.string ⟨#[]⟩],rfl,rfl,⟨[.int .u64 0],[.string ⟨#[]⟩],rfl,rfl,rfl⟩⟩⟩
structure bo where
 Tag:Int
 L:Int
 R:Int
 Col:Int
 Value:ac
 deriving DecidableEq,Inhabited
def bJ:Rp bo:=qc (cO (rI .i64) (cO (rI .i64) (cO (rI .i64) (cO (rI .i64) af)))) (fun x=>(x.Tag,x.L,x.R,x.Col,x.Value))
theorem iv:qu bJ 0 (rI .i64) (fun x=>x.Tag):=(gC dP)
theorem Ex:jU bJ 0 (rI .i64) (fun x y=>{x with Tag:=y}):=dg fE (fun _ _=>rfl)
theorem MX:qu bJ 1 (rI .i64) (fun x=>x.L):=(gC (bh dP rfl))
theorem Ew:jU bJ 1 (rI .i64) (fun x y=>{x with L:=y}):=dg (bg fE rfl) (fun _ _=>rfl)
theorem MW:qu bJ 2 (rI .i64) (fun x=>x.R):=(gC (bh (bh dP rfl) rfl))
theorem Ev:jU bJ 2 (rI .i64) (fun x y=>{x with R:=y}):=dg (bg (bg fE rfl) rfl) (fun _ _=>rfl)
theorem pz:qu bJ 3 (rI .i64) (fun x=>x.Col):=(gC (bh (bh (bh dP rfl) rfl) rfl))
theorem Mn:jU bJ 3 (rI .i64) (fun x y=>{x with Col:=y}):=dg (bg (bg (bg fE rfl) rfl) rfl) (fun _ _=>rfl)
theorem qT:qu bJ 4 af (fun x=>x.Value):=(bh (bh (bh (bh dP rfl) rfl) rfl) rfl)
theorem Mm:jU bJ 4 af (fun x y=>{x with Value:=y}):=dg (bg (bg (bg (bg an rfl) rfl) rfl) rfl) (fun _ _=>rfl)
theorem s0: ∀S,bJ.rc S [.int .i64 0,.int .i64 0,.int .i64 0,.int .i64 0,.int .i64 0,.int .i64 0,.int .u64 0,.string ⟨#[]⟩] ((⟨(0:Int),(0:Int),(0:Int),(0:Int),(⟨(0:Int),(0:Int),(0:Int),[]⟩:ac)⟩:bo)):=fun _=>⟨[.int .i64 0],[.int .i64 0,.int .i64 0,.int .i64 0,.int .i64 0,.int .i64 0,.int .u64 0,.string ⟨#[]⟩],rfl,rfl,⟨[.int .i64 0],[.int .i64 0,.int .i64 0,.int .i64 0,.int .i64 0,.int .u64 0,.string ⟨#[]⟩],rfl,rfl,⟨[.int .i64 0],[.int .i64 0,.int .i64 0,.int .i64 0,.int .u64 0,.string ⟨#[]⟩],rfl,rfl,⟨[.int .i64 0],[.int .i64 0,.int .i64 0,.int .u64 0,.string ⟨#[]⟩],rfl,rfl,bj _⟩⟩⟩⟩
structure bG where
 Nodes:(List bo)
 deriving DecidableEq,Inhabited
def cj:Rp bG:=qc (fV bJ) (fun x=>(x.Nodes))
theorem lX:qu cj 0 (fV bJ) (fun x=>x.Nodes):=dP
theorem ve:jU cj 0 (fV bJ) (fun x y=>{x with Nodes:=y}):=dg an (fun _ _=>rfl)
theorem pX: ∀S,cj.rc S [.slice none 0 0] ((⟨[]⟩:bG)):=fun _=>⟨none,0,rfl,dy _,lF _,.inl rfl⟩
structure gS where
 Tag:Int
 Arg:bG
 deriving DecidableEq,Inhabited
def fm:Rp gS:=qc (cO (rI .i64) cj) (fun x=>(x.Tag,x.Arg))
theorem tM:qu fm 0 (rI .i64) (fun x=>x.Tag):=(gC dP)
theorem JT:jU fm 0 (rI .i64) (fun x y=>{x with Tag:=y}):=dg fE (fun _ _=>rfl)
theorem vx:qu fm 1 cj (fun x=>x.Arg):=(bh dP rfl)
theorem JR:jU fm 1 cj (fun x y=>{x with Arg:=y}):=dg (bg an rfl) (fun _ _=>rfl)
theorem D8: ∀S,fm.rc S [.int .i64 0,.slice none 0 0] ((⟨(0:Int),(⟨[]⟩:bG)⟩:gS)):=fun _=>⟨[.int .i64 0],[.slice none 0 0],rfl,rfl,pX _⟩
structure gG where
 Col:Int
 Desc:Bool
 deriving DecidableEq,Inhabited
def gI:Rp gG:=qc (cO (rI .i64) rB) (fun x=>(x.Col,x.Desc))
theorem Bq:qu gI 0 (rI .i64) (fun x=>x.Col):=(gC dP)
theorem RX:qu gI 1 rB (fun x=>x.Desc):=(bh dP rfl)
theorem Xq: ∀S,gI.rc S [.int .i64 0,.bool false] ((⟨(0:Int),false⟩:gG)):=fun _=>⟨[.int .i64 0],[.bool false],rfl,rfl,rfl⟩
structure aj where
 Op:Int
 A:Int
 B:Int
 Table:Int
 Kinds:(List Int)
 Left:Bool
 Cond:bG
 Keys:(List Int)
 Aggs:(List gS)
 Items:(List bG)
 Order:(List gG)
 Limit:Int
 deriving DecidableEq,Inhabited
def aF:Rp aj:=qc (cO (rI .i64) (cO (rI .i64) (cO (rI .i64) (cO (rI .i64) (cO (fV (rI .i64)) (cO rB (cO cj (cO (fV (rI .i64)) (cO (fV fm) (cO (fV cj) (cO (fV gI) (rI .i64)))))))))))) (fun x=>(x.Op,x.A,x.B,x.Table,x.Kinds,x.Left,x.Cond,x.Keys,x.Aggs,x.Items,x.Order,x.Limit))
theorem py:qu aF 0 (rI .i64) (fun x=>x.Op):=(gC dP)
theorem wa:jU aF 0 (rI .i64) (fun x y=>{x with Op:=y}):=dg fE (fun _ _=>rfl)
theorem dN:qu aF 1 (rI .i64) (fun x=>x.A):=(gC (bh dP rfl))
theorem v7:jU aF 1 (rI .i64) (fun x y=>{x with A:=y}):=dg (bg fE rfl) (fun _ _=>rfl)
theorem kI:qu aF 2 (rI .i64) (fun x=>x.B):=(gC (bh (bh dP rfl) rfl))
theorem td:jU aF 2 (rI .i64) (fun x y=>{x with B:=y}):=dg (bg (bg fE rfl) rfl) (fun _ _=>rfl)
theorem mR:qu aF 3 (rI .i64) (fun x=>x.Table):=(gC (bh (bh (bh dP rfl) rfl) rfl))
theorem Mj:jU aF 3 (rI .i64) (fun x y=>{x with Table:=y}):=dg (bg (bg (bg fE rfl) rfl) rfl) (fun _ _=>rfl)
theorem om:qu aF 4 (fV (rI .i64)) (fun x=>x.Kinds):=(gC (bh (bh (bh (bh dP rfl) rfl) rfl) rfl))
theorem zZ:jU aF 4 (fV (rI .i64)) (fun x y=>{x with Kinds:=y}):=dg (bg (bg (bg (bg fE rfl) rfl) rfl) rfl) (fun _ _=>rfl)
theorem Fl:qu aF 5 rB (fun x=>x.Left):=(gC (bh (bh (bh (bh (bh dP rfl) rfl) rfl) rfl) rfl))
theorem Eu:jU aF 5 rB (fun x y=>{x with Left:=y}):=dg (bg (bg (bg (bg (bg fE rfl) rfl) rfl) rfl) rfl) (fun _ _=>rfl)
theorem ol:qu aF 6 cj (fun x=>x.Cond):=(gC (bh (bh (bh (bh (bh (bh dP rfl) rfl) rfl) rfl) rfl) rfl))
theorem v6:jU aF 6 cj (fun x y=>{x with Cond:=y}):=dg (bg (bg (bg (bg (bg (bg fE rfl) rfl) rfl) rfl) rfl) rfl) (fun _ _=>rfl)
theorem mQ:qu aF 7 (fV (rI .i64)) (fun x=>x.Keys):=(gC (bh (bh (bh (bh (bh (bh (bh dP rfl) rfl) rfl) rfl) rfl) rfl) rfl))
theorem Et:jU aF 7 (fV (rI .i64)) (fun x y=>{x with Keys:=y}):=dg (bg (bg (bg (bg (bg (bg (bg fE rfl) rfl) rfl) rfl) rfl) rfl) rfl) (fun _ _=>rfl)
theorem oj:qu aF 8 (fV fm) (fun x=>x.Aggs):=(gC (bh (bh (bh (bh (bh (bh (bh (bh dP rfl) rfl) rfl) rfl) rfl) rfl) rfl) rfl))
theorem Es:jU aF 8 (fV fm) (fun x y=>{x with Aggs:=y}):=dg (bg (bg (bg (bg (bg (bg (bg (bg fE rfl) rfl) rfl) rfl) rfl) rfl) rfl) rfl) (fun _ _=>rfl)
theorem mP:qu aF 9 (fV cj) (fun x=>x.Items):=(gC (bh (bh (bh (bh (bh (bh (bh (bh (bh dP rfl) rfl) rfl) rfl) rfl) rfl) rfl) rfl) rfl))
theorem Mi:jU aF 9 (fV cj) (fun x y=>{x with Items:=y}):=dg (bg (bg (bg (bg (bg (bg (bg (bg (bg fE rfl) rfl) rfl) rfl) rfl) rfl) rfl) rfl) rfl) (fun _ _=>rfl)
theorem pN:qu aF 10 (fV gI) (fun x=>x.Order):=(gC (bh (bh (bh (bh (bh (bh (bh (bh (bh (bh dP rfl) rfl) rfl) rfl) rfl) rfl) rfl) rfl) rfl) rfl))
theorem CZ:jU aF 10 (fV gI) (fun x y=>{x with Order:=y}):=dg (bg (bg (bg (bg (bg (bg (bg (bg (bg (bg fE rfl) rfl) rfl) rfl) rfl) rfl) rfl) rfl) rfl) rfl) (fun _ _=>rfl)
theorem uB:qu aF 11 (rI .i64) (fun x=>x.Limit):=(bh (bh (bh (bh (bh (bh (bh (bh (bh (bh (bh dP rfl) rfl) rfl) rfl) rfl) rfl) rfl) rfl) rfl) rfl) rfl)
theorem JQ:jU aF 11 (rI .i64) (fun x y=>{x with Limit:=y}):=dg (bg (bg (bg (bg (bg (bg (bg (bg (bg (bg (bg an rfl) rfl) rfl) rfl) rfl) rfl) rfl) rfl) rfl) rfl) rfl) (fun _ _=>rfl)
theorem lK: ∀S,aF.rc S [.int .i64 0,.int .i64 0,.int .i64 0,.int .i64 0,.slice none 0 0,.bool false,.slice none 0 0,.slice none 0 0,.slice none 0 0,.slice none 0 0,.slice none 0 0,.int .i64 0] ((⟨(0:Int),(0:Int),(0:Int),(0:Int),[],false,(⟨[]⟩:bG),[],[],[],[],(0:Int)⟩:aj)):=fun _=>⟨[.int .i64 0],[.int .i64 0,.int .i64 0,.int .i64 0,.slice none 0 0,.bool false,.slice none 0 0,.slice none 0 0,.slice none 0 0,.slice none 0 0,.slice none 0 0,.int .i64 0],rfl,rfl,⟨[.int .i64 0],[.int .i64 0,.int .i64 0,.slice none 0 0,.bool false,.slice none 0 0,.slice none 0 0,.slice none 0 0,.slice none 0 0,.slice none 0 0,.int .i64 0],rfl,rfl,⟨[.int .i64 0],[.int .i64 0,.slice none 0 0,.bool false,.slice none 0 0,.slice none 0 0,.slice none 0 0,.slice none 0 0,.slice none 0 0,.int .i64 0],rfl,rfl,⟨[.int .i64 0],[.slice none 0 0,.bool false,.slice none 0 0,.slice none 0 0,.slice none 0 0,.slice none 0 0,.slice none 0 0,.int .i64 0],rfl,rfl,⟨[.slice none 0 0],[.bool false,.slice none 0 0,.slice none 0 0,.slice none 0 0,.slice none 0 0,.slice none 0 0,.int .i64 0],rfl,⟨none,0,rfl,dy _,lF _,.inl rfl⟩,⟨[.bool false],[.slice none 0 0,.slice none 0 0,.slice none 0 0,.slice none 0 0,.slice none 0 0,.int .i64 0],rfl,rfl,⟨[.slice none 0 0],[.slice none 0 0,.slice none 0 0,.slice none 0 0,.slice none 0 0,.int .i64 0],rfl,pX _,⟨[.slice none 0 0],[.slice none 0 0,.slice none 0 0,.slice none 0 0,.int .i64 0],rfl,⟨none,0,rfl,dy _,lF _,.inl rfl⟩,⟨[.slice none 0 0],[.slice none 0 0,.slice none 0 0,.int .i64 0],rfl,⟨none,0,rfl,dy _,lF _,.inl rfl⟩,⟨[.slice none 0 0],[.slice none 0 0,.int .i64 0],rfl,⟨none,0,rfl,dy _,lF _,.inl rfl⟩,⟨[.slice none 0 0],[.int .i64 0],rfl,⟨none,0,rfl,dy _,lF _,.inl rfl⟩,rfl⟩⟩⟩⟩⟩⟩⟩⟩⟩⟩⟩
structure bc where
 Nodes:(List aj)
 deriving DecidableEq,Inhabited
def bP:Rp bc:=qc (fV aF) (fun x=>(x.Nodes))
theorem kH:qu bP 0 (fV aF) (fun x=>x.Nodes):=dP
theorem Mh:jU bP 0 (fV aF) (fun x y=>{x with Nodes:=y}):=dg an (fun _ _=>rfl)
theorem kZ: ∀S,bP.rc S [.slice none 0 0] ((⟨[]⟩:bc)):=fun _=>⟨none,0,rfl,dy _,lF _,.inl rfl⟩
structure aE where
 Logic:bc
 kinds:(List (List Int))
 first:(List Int)
 deriving DecidableEq,Inhabited
def bn:Rp aE:=qc (cO bP (cO (fV (fV (rI .i64))) (fV (rI .i64)))) (fun x=>(x.Logic,x.kinds,x.first))
theorem wp:qu bn 0 bP (fun x=>x.Logic):=(gC dP)
theorem Ib:jU bn 0 bP (fun x y=>{x with Logic:=y}):=dg fE (fun _ _=>rfl)
theorem IL:qu bn 1 (fV (fV (rI .i64))) (fun x=>x.kinds):=(gC (bh dP rfl))
theorem Ia:jU bn 1 (fV (fV (rI .i64))) (fun x y=>{x with kinds:=y}):=dg (bg fE rfl) (fun _ _=>rfl)
theorem Bp:qu bn 2 (fV (rI .i64)) (fun x=>x.first):=(bh (bh dP rfl) rfl)
theorem H9:jU bn 2 (fV (rI .i64)) (fun x y=>{x with first:=y}):=dg (bg (bg an rfl) rfl) (fun _ _=>rfl)
theorem LS: ∀S,bn.rc S [.slice none 0 0,.slice none 0 0,.slice none 0 0] ((⟨(⟨[]⟩:bc),[],[]⟩:aE)):=fun _=>⟨[.slice none 0 0],[.slice none 0 0,.slice none 0 0],rfl,kZ _,⟨[.slice none 0 0],[.slice none 0 0],rfl,⟨none,0,rfl,dy _,lF _,.inl rfl⟩,⟨none,0,rfl,dy _,lF _,.inl rfl⟩⟩⟩
structure dx where
 Tables:(List (List (List ac)))
 deriving DecidableEq,Inhabited
def iS:Rp dx:=qc (fV (fV (fV af))) (fun x=>(x.Tables))
theorem qU:qu iS 0 (fV (fV (fV af))) (fun x=>x.Tables):=dP
theorem PE:jU iS 0 (fV (fV (fV af))) (fun x y=>{x with Tables:=y}):=dg an (fun _ _=>rfl)
theorem HN: ∀S,iS.rc S [.slice none 0 0] ((⟨[]⟩:dx)):=fun _=>⟨none,0,rfl,dy _,lF _,.inl rfl⟩
structure cS where
 Base:dx
 rows:(List (List (List ac)))
 width:(List Int)
 deriving DecidableEq,Inhabited
def ea:Rp cS:=qc (cO iS (cO (fV (fV (fV af))) (fV (rI .i64)))) (fun x=>(x.Base,x.rows,x.width))
theorem RW:qu ea 0 iS (fun x=>x.Base):=(gC dP)
theorem Ra:jU ea 0 iS (fun x y=>{x with Base:=y}):=dg fE (fun _ _=>rfl)
theorem Q9:jU ea 1 (fV (fV (fV af))) (fun x y=>{x with rows:=y}):=dg (bg fE rfl) (fun _ _=>rfl)
theorem Q8:jU ea 2 (fV (rI .i64)) (fun x y=>{x with width:=y}):=dg (bg (bg an rfl) rfl) (fun _ _=>rfl)
theorem Xp: ∀S,ea.rc S [.slice none 0 0,.slice none 0 0,.slice none 0 0] ((⟨(⟨[]⟩:dx),[],[]⟩:cS)):=fun _=>⟨[.slice none 0 0],[.slice none 0 0,.slice none 0 0],rfl,HN _,⟨[.slice none 0 0],[.slice none 0 0],rfl,⟨none,0,rfl,dy _,lF _,.inl rfl⟩,⟨none,0,rfl,dy _,lF _,.inl rfl⟩⟩⟩
structure ie where
 Key:(List ac)
 Rows:(List (List ac))
 deriving DecidableEq,Inhabited
def fN:Rp ie:=qc (cO (fV af) (fV (fV af))) (fun x=>(x.Key,x.Rows))
theorem MU:qu fN 0 (fV af) (fun x=>x.Key):=(gC dP)
theorem Ml:jU fN 0 (fV af) (fun x y=>{x with Key:=y}):=dg fE (fun _ _=>rfl)
theorem MT:qu fN 1 (fV (fV af)) (fun x=>x.Rows):=(bh dP rfl)
theorem Mk:jU fN 1 (fV (fV af)) (fun x y=>{x with Rows:=y}):=dg (bg an rfl) (fun _ _=>rfl)
theorem D7: ∀S,fN.rc S [.slice none 0 0,.slice none 0 0] ((⟨[],[]⟩:ie)):=fun _=>⟨[.slice none 0 0],[.slice none 0 0],rfl,⟨none,0,rfl,dy _,lF _,.inl rfl⟩,⟨none,0,rfl,dy _,lF _,.inl rfl⟩⟩
structure eH where
 D:(List Int)
 Below:Bool
 deriving DecidableEq,Inhabited
structure Lz where
 Nodes:Value
def lx:Rp Lz:=qc rV (fun x=>(x.Nodes))
theorem oI:qu lx 0 rV (fun x=>x.Nodes):=dP
def mN(y:bc)(v0:Value):Lz:=⟨v0⟩
theorem D6: ∀S,lx.rc S [.slice none 0 0] (mN ((⟨[]⟩:bc)) (aR none 0 0)):=fun _=>⟨rfl,rfl⟩
structure acc where
 Tables:Value
structure LA where
 Op:Int
 A:Int
 B:Int
 Table:Int
 Kinds:(List Int)
 Left:Bool
 Cond:bG
 Keys:(List Int)
 Aggs:Value
 Items:(List bG)
 Order:(List gG)
 Limit:Int
def EG:Rp LA:=qc (cO (rI .i64) (cO (rI .i64) (cO (rI .i64) (cO (rI .i64) (cO (fV (rI .i64)) (cO rB (cO cj (cO (fV (rI .i64)) (cO rV (cO (fV cj) (cO (fV gI) (rI .i64)))))))))))) (fun x=>(x.Op,x.A,x.B,x.Table,x.Kinds,x.Left,x.Cond,x.Keys,x.Aggs,x.Items,x.Order,x.Limit))
def E6(y:aj)(v8:Value):LA:=⟨y.Op,y.A,y.B,y.Table,y.Kinds,y.Left,y.Cond,y.Keys,v8,y.Items,y.Order,y.Limit⟩
structure FQ where
 Op:Int
 A:Int
 B:Int
 Table:Int
 Kinds:(List Int)
 Left:Bool
 Cond:bG
 Keys:(List Int)
 Aggs:Value
 Items:Value
 Order:(List gG)
 Limit:Int
def lc:Rp FQ:=qc (cO (rI .i64) (cO (rI .i64) (cO (rI .i64) (cO (rI .i64) (cO (fV (rI .i64)) (cO rB (cO cj (cO (fV (rI .i64)) (cO rV (cO rV (cO (fV gI) (rI .i64)))))))))))) (fun x=>(x.Op,x.A,x.B,x.Table,x.Kinds,x.Left,x.Cond,x.Keys,x.Aggs,x.Items,x.Order,x.Limit))
theorem tL:qu lc 8 rV (fun x=>x.Aggs):=(gC (bh (bh (bh (bh (bh (bh (bh (bh dP rfl) rfl) rfl) rfl) rfl) rfl) rfl) rfl))
theorem tK:qu lc 9 rV (fun x=>x.Items):=(gC (bh (bh (bh (bh (bh (bh (bh (bh (bh dP rfl) rfl) rfl) rfl) rfl) rfl) rfl) rfl) rfl))
def oF(y:aj)(v8:Value)(v9:Value):FQ:=⟨y.Op,y.A,y.B,y.Table,y.Kinds,y.Left,y.Cond,y.Keys,v8,v9,y.Order,y.Limit⟩
theorem r0{S:SH}{cs:List Value}{y:bc}{v0:Value}{xs0:(List aj)}(k0:(fV aF).rc S [v0] xs0)(h:lx.rc S cs (mN y v0)):bP.rc S cs ((⟨xs0⟩:bc)):=by
 have h0:=h
 exact(by rw [h0.1];exact k0)
theorem BG{S:SH}{cs:List Value}{y:aj}{v8:Value}{v9:Value}{xs8:(List gS)}(k8:(fV fm).rc S [v8] xs8){xs9:(List bG)}(k9:(fV cj).rc S [v9] xs9)(h:lc.rc S cs (oF y v8 v9)):aF.rc S cs ((⟨y.Op,y.A,y.B,y.Table,y.Kinds,y.Left,y.Cond,y.Keys,xs8,xs9,y.Order,y.Limit⟩:aj)):=by
 obtain⟨a0,b0,e0,h0,a1,b1,e1,h1,a2,b2,e2,h2,a3,b3,e3,h3,a4,b4,e4,h4,a5,b5,e5,h5,a6,b6,e6,h6,a7,b7,e7,h7,a8,b8,e8,h8,a9,b9,e9,h9,a10,b10,e10,h10,h11⟩:=h
 exact⟨a0,b0,e0,h0,a1,b1,e1,h1,a2,b2,e2,h2,a3,b3,e3,h3,a4,b4,e4,h4,a5,b5,e5,h5,a6,b6,e6,h6,a7,b7,e7,h7,a8,b8,e8,(by rw [h8.1];exact k8),a9,b9,e9,(by rw [h9.1];exact k9),a10,b10,e10,h10,h11⟩
theorem nV(y:bc)(u:Value)(v:Value):vC lx lx 0 rV (mN y u) v (mN y v):=H8 (yq rfl) rfl
theorem zU(y:aj)(v:Value):vC aF EG 8 rV (y) v (E6 y v):=H8 (k7 (k7 (k7 (k7 (k7 (k7 (k7 (k7 (NZ (yq rfl) rfl) rfl) rfl) rfl) rfl) rfl) rfl) rfl) rfl) rfl
theorem vX(y:aj)(v8:Value)(v:Value):vC EG lc 9 rV (E6 y v8) v (oF y v8 v):=H8 (k7 (k7 (k7 (k7 (k7 (k7 (k7 (k7 (k7 (NZ (yq rfl) rfl) rfl) rfl) rfl) rfl) rfl) rfl) rfl) rfl) rfl) rfl
def dw(b:Nat)(x:aE)(i:OI):List OE:=[bx (rH bn [(1,aR (i.h 0).1 (i.h 0).2 x.kinds.length),(2,aR (i.h 1).1 (i.h 1).2 x.first.length)]) 115 b x,dT (fV (rI .i64)) 39 (i.h 0).1 (i.h 0).2 x.kinds,dT (rI .i64) 3 (i.h 1).1 (i.h 1).2 x.first]
def jr(b:Nat)(x:cS)(i:OI):List OE:=[bx (rH ea [(1,aR (i.h 0).1 (i.h 0).2 x.rows.length),(2,aR (i.h 1).1 (i.h 1).2 x.width.length)]) 96 b x,dT (fV (fV af)) 32 (i.h 0).1 (i.h 0).2 x.rows,dT (rI .i64) 3 (i.h 1).1 (i.h 1).2 x.width]
def gv2:(List ac):=[(⟨(1:Int),(0:Int),(0:Int),[]⟩:ac),(⟨(0:Int),(0:Int),(0:Int),[]⟩:ac),(⟨(1:Int),(1:Int),(0:Int),[]⟩:ac)]
theorem gm2:((2:Nat),([.int .i64 (1),.int .i64 (0),.int .u64 (0),.string ⟨([]:List UInt8).toArray⟩,.int .i64 (0),.int .i64 (0),.int .u64 (0),.string ⟨([]:List UInt8).toArray⟩,.int .i64 (1),.int .i64 (1),.int .u64 (0),.string ⟨([]:List UInt8).toArray⟩]:List Value))∈glob:=by simp [glob]
theorem gr2: ∀S,(tz af 3).rc S ([.int .i64 (1),.int .i64 (0),.int .u64 (0),.string ⟨([]:List UInt8).toArray⟩,.int .i64 (0),.int .i64 (0),.int .u64 (0),.string ⟨([]:List UInt8).toArray⟩,.int .i64 (1),.int .i64 (1),.int .u64 (0),.string ⟨([]:List UInt8).toArray⟩]:List Value) gv2:=fun _=>⟨rfl,⟨[.int .i64 (1),.int .i64 (0),.int .u64 (0),.string ⟨([]:List UInt8).toArray⟩],[.int .i64 (0),.int .i64 (0),.int .u64 (0),.string ⟨([]:List UInt8).toArray⟩,.int .i64 (1),.int .i64 (1),.int .u64 (0),.string ⟨([]:List UInt8).toArray⟩],rfl,⟨[.int .i64 (1)],[.int .i64 (0),.int .u64 (0),.string ⟨([]:List UInt8).toArray⟩],rfl,rfl,⟨[.int .i64 (0)],[.int .u64 (0),.string ⟨([]:List UInt8).toArray⟩],rfl,rfl,⟨[.int .u64 (0)],[.string ⟨([]:List UInt8).toArray⟩],rfl,rfl,rfl⟩⟩⟩,⟨[.int .i64 (0),.int .i64 (0),.int .u64 (0),.string ⟨([]:List UInt8).toArray⟩],[.int .i64 (1),.int .i64 (1),.int .u64 (0),.string ⟨([]:List UInt8).toArray⟩],rfl,⟨[.int .i64 (0)],[.int .i64 (0),.int .u64 (0),.string ⟨([]:List UInt8).toArray⟩],rfl,rfl,⟨[.int .i64 (0)],[.int .u64 (0),.string ⟨([]:List UInt8).toArray⟩],rfl,rfl,⟨[.int .u64 (0)],[.string ⟨([]:List UInt8).toArray⟩],rfl,rfl,rfl⟩⟩⟩,⟨[.int .i64 (1),.int .i64 (1),.int .u64 (0),.string ⟨([]:List UInt8).toArray⟩],[],rfl,⟨[.int .i64 (1)],[.int .i64 (1),.int .u64 (0),.string ⟨([]:List UInt8).toArray⟩],rfl,rfl,⟨[.int .i64 (1)],[.int .u64 (0),.string ⟨([]:List UInt8).toArray⟩],rfl,rfl,⟨[.int .u64 (0)],[.string ⟨([]:List UInt8).toArray⟩],rfl,rfl,rfl⟩⟩⟩,(rfl:_=[])⟩⟩⟩⟩

end Go.Proofs.YtfhhakidodmdfaaGreatDoor

