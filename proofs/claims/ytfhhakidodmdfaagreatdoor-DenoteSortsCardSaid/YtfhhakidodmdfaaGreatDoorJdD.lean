/- da of this claim: D. -/
import Derived.Test.YtfhhakidodmdfaaGreatDoorJdV3
import Derived.Test.YtfhhakidodmdfaaGreatDoorJdV4
set_option linter.all false
namespace Go.Proofs.YtfhhakidodmdfaaGreatDoor
open Go

structure ac where
 Kind:Int
 N:Int
 U:Int
 S:wz
 deriving DecidableEq,Inhabited
def af:Rp ac:=sP (dZ (rI .i64) (dZ (rI .i64) (dZ (rI .u64) rS))) (fun x=>(x.Kind,x.N,x.U,x.S))
theorem cg:pV af 0 (rI .i64) (fun x=>x.Kind):=(gB dY)
theorem nq:jT af 0 (rI .i64) (fun x y=>{x with Kind:=y}):=dy fL (fun _ _=>rfl)
theorem dm:pV af 1 (rI .i64) (fun x=>x.N):=(gB (be dY rfl))
theorem oL:jT af 1 (rI .i64) (fun x y=>{x with N:=y}):=dy (bh fL rfl) (fun _ _=>rfl)
theorem iY:pV af 2 (rI .u64) (fun x=>x.U):=(gB (be (be dY rfl) rfl))
theorem zk:jT af 2 (rI .u64) (fun x y=>{x with U:=y}):=dy (bh (bh fL rfl) rfl) (fun _ _=>rfl)
theorem gN:pV af 3 rS (fun x=>x.S):=(be (be (be dY rfl) rfl) rfl)
theorem Ly:jT af 3 rS (fun x y=>{x with S:=y}):=dy (bh (bh (bh an rfl) rfl) rfl) (fun _ _=>rfl)
theorem bf: ∀S,af.rc S [.int .i64 0,.int .i64 0,.int .u64 0,.string ⟨#[]⟩] ((⟨(0:Int),(0:Int),(0:Int),[]⟩:ac)):=fun _=>⟨[.int .i64 0],[.int .i64 0,.int .u64 0,.string ⟨#[]⟩],rfl,rfl,⟨[.int .i64 0],[.int .u64 0,.string ⟨#[]⟩],rfl,rfl,⟨[.int .u64 0],[.string ⟨#[]⟩],rfl,rfl,rfl⟩⟩⟩
structure bo where
 Tag:Int
 L:Int
 R:Int
 Col:Int
 Value:ac
 deriving DecidableEq,Inhabited
def bP:Rp bo:=sP (dZ (rI .i64) (dZ (rI .i64) (dZ (rI .i64) (dZ (rI .i64) af)))) (fun x=>(x.Tag,x.L,x.R,x.Col,x.Value))
theorem iu:pV bP 0 (rI .i64) (fun x=>x.Tag):=(gB dY)
theorem LJ:jT bP 0 (rI .i64) (fun x y=>{x with Tag:=y}):=dy fL (fun _ _=>rfl)
theorem Ms:pV bP 1 (rI .i64) (fun x=>x.L):=(gB (be dY rfl))
theorem LI:jT bP 1 (rI .i64) (fun x y=>{x with L:=y}):=dy (bh fL rfl) (fun _ _=>rfl)
theorem Mr:pV bP 2 (rI .i64) (fun x=>x.R):=(gB (be (be dY rfl) rfl))
theorem LH:jT bP 2 (rI .i64) (fun x y=>{x with R:=y}):=dy (bh (bh fL rfl) rfl) (fun _ _=>rfl)
theorem oW:pV bP 3 (rI .i64) (fun x=>x.Col):=(gB (be (be (be dY rfl) rfl) rfl))
theorem LF:jT bP 3 (rI .i64) (fun x y=>{x with Col:=y}):=dy (bh (bh (bh fL rfl) rfl) rfl) (fun _ _=>rfl)
theorem sZ:pV bP 4 af (fun x=>x.Value):=(be (be (be (be dY rfl) rfl) rfl) rfl)
theorem wM: ∀S,bP.rc S [.int .i64 0,.int .i64 0,.int .i64 0,.int .i64 0,.int .i64 0,.int .i64 0,.int .u64 0,.string ⟨#[]⟩] ((⟨(0:Int),(0:Int),(0:Int),(0:Int),(⟨(0:Int),(0:Int),(0:Int),[]⟩:ac)⟩:bo)):=fun _=>⟨[.int .i64 0],[.int .i64 0,.int .i64 0,.int .i64 0,.int .i64 0,.int .i64 0,.int .u64 0,.string ⟨#[]⟩],rfl,rfl,⟨[.int .i64 0],[.int .i64 0,.int .i64 0,.int .i64 0,.int .i64 0,.int .u64 0,.string ⟨#[]⟩],rfl,rfl,⟨[.int .i64 0],[.int .i64 0,.int .i64 0,.int .i64 0,.int .u64 0,.string ⟨#[]⟩],rfl,rfl,⟨[.int .i64 0],[.int .i64 0,.int .i64 0,.int .u64 0,.string ⟨#[]⟩],rfl,rfl,bf _⟩⟩⟩⟩
structure bL where
 Nodes:(List bo)
 deriving DecidableEq,Inhabited
def cB:Rp bL:=sP (hM bP) (fun x=>(x.Nodes))
theorem nU:pV cB 0 (hM bP) (fun x=>x.Nodes):=dY
theorem xG:jT cB 0 (hM bP) (fun x y=>{x with Nodes:=y}):=dy an (fun _ _=>rfl)
theorem tB: ∀S,cB.rc S [.slice none 0 0] ((⟨[]⟩:bL)):=fun _=>⟨none,0,rfl,dF _,ln _,.inl rfl⟩
structure hY where
 Tag:Int
 Arg:bL
 deriving DecidableEq,Inhabited
def gm:Rp hY:=sP (dZ (rI .i64) cB) (fun x=>(x.Tag,x.Arg))
theorem s0:pV gm 0 (rI .i64) (fun x=>x.Tag):=(gB dY)
theorem Jj:jT gm 0 (rI .i64) (fun x y=>{x with Tag:=y}):=dy fL (fun _ _=>rfl)
theorem xj:pV gm 1 cB (fun x=>x.Arg):=(be dY rfl)
theorem Ji:jT gm 1 cB (fun x y=>{x with Arg:=y}):=dy (bh an rfl) (fun _ _=>rfl)
theorem Hd: ∀S,gm.rc S [.int .i64 0,.slice none 0 0] ((⟨(0:Int),(⟨[]⟩:bL)⟩:hY)):=fun _=>⟨[.int .i64 0],[.slice none 0 0],rfl,rfl,tB _⟩
structure dn where
 Col:Int
 Desc:Bool
 deriving DecidableEq,Inhabited
def d3:Rp dn:=sP (dZ (rI .i64) rB) (fun x=>(x.Col,x.Desc))
theorem ow:pV d3 0 (rI .i64) (fun x=>x.Col):=(gB dY)
theorem Kh:pV d3 1 rB (fun x=>x.Desc):=(be dY rfl)
theorem Qi: ∀S,d3.rc S [.int .i64 0,.bool false] ((⟨(0:Int),false⟩:dn)):=fun _=>⟨[.int .i64 0],[.bool false],rfl,rfl,rfl⟩
structure am where
 Op:Int
 A:Int
 B:Int
 Table:Int
 Kinds:(List Int)
 Left:Bool
 Cond:bL
 Keys:(List Int)
 Aggs:(List hY)
 Items:(List bL)
 Order:(List dn)
 Limit:Int
 deriving DecidableEq,Inhabited
def aL:Rp am:=sP (dZ (rI .i64) (dZ (rI .i64) (dZ (rI .i64) (dZ (rI .i64) (dZ (hM (rI .i64)) (dZ rB (dZ cB (dZ (hM (rI .i64)) (dZ (hM gm) (dZ (hM cB) (dZ (hM d3) (rI .i64)))))))))))) (fun x=>(x.Op,x.A,x.B,x.Table,x.Kinds,x.Left,x.Cond,x.Keys,x.Aggs,x.Items,x.Order,x.Limit))
theorem qp:pV aL 0 (rI .i64) (fun x=>x.Op):=(gB dY)
theorem DY:jT aL 0 (rI .i64) (fun x y=>{x with Op:=y}):=dy fL (fun _ _=>rfl)
theorem dX:pV aL 1 (rI .i64) (fun x=>x.A):=(gB (be dY rfl))
theorem DX:jT aL 1 (rI .i64) (fun x y=>{x with A:=y}):=dy (bh fL rfl) (fun _ _=>rfl)
theorem kp:pV aL 2 (rI .i64) (fun x=>x.B):=(gB (be (be dY rfl) rfl))
theorem zn:jT aL 2 (rI .i64) (fun x y=>{x with B:=y}):=dy (bh (bh fL rfl) rfl) (fun _ _=>rfl)
theorem qo:pV aL 3 (rI .i64) (fun x=>x.Table):=(gB (be (be (be dY rfl) rfl) rfl))
theorem LC:jT aL 3 (rI .i64) (fun x y=>{x with Table:=y}):=dy (bh (bh (bh fL rfl) rfl) rfl) (fun _ _=>rfl)
theorem oV:pV aL 4 (hM (rI .i64)) (fun x=>x.Kinds):=(gB (be (be (be (be dY rfl) rfl) rfl) rfl))
theorem zm:jT aL 4 (hM (rI .i64)) (fun x y=>{x with Kinds:=y}):=dy (bh (bh (bh (bh fL rfl) rfl) rfl) rfl) (fun _ _=>rfl)
theorem EF:pV aL 5 rB (fun x=>x.Left):=(gB (be (be (be (be (be dY rfl) rfl) rfl) rfl) rfl))
theorem LB:jT aL 5 rB (fun x y=>{x with Left:=y}):=dy (bh (bh (bh (bh (bh fL rfl) rfl) rfl) rfl) rfl) (fun _ _=>rfl)
theorem oU:pV aL 6 cB (fun x=>x.Cond):=(gB (be (be (be (be (be (be dY rfl) rfl) rfl) rfl) rfl) rfl))
theorem zl:jT aL 6 cB (fun x y=>{x with Cond:=y}):=dy (bh (bh (bh (bh (bh (bh fL rfl) rfl) rfl) rfl) rfl) rfl) (fun _ _=>rfl)
theorem nG:pV aL 7 (hM (rI .i64)) (fun x=>x.Keys):=(gB (be (be (be (be (be (be (be dY rfl) rfl) rfl) rfl) rfl) rfl) rfl))
theorem DW:jT aL 7 (hM (rI .i64)) (fun x y=>{x with Keys:=y}):=dy (bh (bh (bh (bh (bh (bh (bh fL rfl) rfl) rfl) rfl) rfl) rfl) rfl) (fun _ _=>rfl)
theorem qn:pV aL 8 (hM gm) (fun x=>x.Aggs):=(gB (be (be (be (be (be (be (be (be dY rfl) rfl) rfl) rfl) rfl) rfl) rfl) rfl))
theorem DV:jT aL 8 (hM gm) (fun x y=>{x with Aggs:=y}):=dy (bh (bh (bh (bh (bh (bh (bh (bh fL rfl) rfl) rfl) rfl) rfl) rfl) rfl) rfl) (fun _ _=>rfl)
theorem oT:pV aL 9 (hM cB) (fun x=>x.Items):=(gB (be (be (be (be (be (be (be (be (be dY rfl) rfl) rfl) rfl) rfl) rfl) rfl) rfl) rfl))
theorem LA:jT aL 9 (hM cB) (fun x y=>{x with Items:=y}):=dy (bh (bh (bh (bh (bh (bh (bh (bh (bh fL rfl) rfl) rfl) rfl) rfl) rfl) rfl) rfl) rfl) (fun _ _=>rfl)
theorem q9:pV aL 10 (hM d3) (fun x=>x.Order):=(gB (be (be (be (be (be (be (be (be (be (be dY rfl) rfl) rfl) rfl) rfl) rfl) rfl) rfl) rfl) rfl))
theorem Cp:jT aL 10 (hM d3) (fun x y=>{x with Order:=y}):=dy (bh (bh (bh (bh (bh (bh (bh (bh (bh (bh fL rfl) rfl) rfl) rfl) rfl) rfl) rfl) rfl) rfl) rfl) (fun _ _=>rfl)
theorem tY:pV aL 11 (rI .i64) (fun x=>x.Limit):=(be (be (be (be (be (be (be (be (be (be (be dY rfl) rfl) rfl) rfl) rfl) rfl) rfl) rfl) rfl) rfl) rfl)
theorem Jh:jT aL 11 (rI .i64) (fun x y=>{x with Limit:=y}):=dy (bh (bh (bh (bh (bh (bh (bh (bh (bh (bh (bh an rfl) rfl) rfl) rfl) rfl) rfl) rfl) rfl) rfl) rfl) rfl) (fun _ _=>rfl)
theorem pq: ∀S,aL.rc S [.int .i64 0,.int .i64 0,.int .i64 0,.int .i64 0,.slice none 0 0,.bool false,.slice none 0 0,.slice none 0 0,.slice none 0 0,.slice none 0 0,.slice none 0 0,.int .i64 0] ((⟨(0:Int),(0:Int),(0:Int),(0:Int),[],false,(⟨[]⟩:bL),[],[],[],[],(0:Int)⟩:am)):=fun _=>⟨[.int .i64 0],[.int .i64 0,.int .i64 0,.int .i64 0,.slice none 0 0,.bool false,.slice none 0 0,.slice none 0 0,.slice none 0 0,.slice none 0 0,.slice none 0 0,.int .i64 0],rfl,rfl,⟨[.int .i64 0],[.int .i64 0,.int .i64 0,.slice none 0 0,.bool false,.slice none 0 0,.slice none 0 0,.slice none 0 0,.slice none 0 0,.slice none 0 0,.int .i64 0],rfl,rfl,⟨[.int .i64 0],[.int .i64 0,.slice none 0 0,.bool false,.slice none 0 0,.slice none 0 0,.slice none 0 0,.slice none 0 0,.slice none 0 0,.int .i64 0],rfl,rfl,⟨[.int .i64 0],[.slice none 0 0,.bool false,.slice none 0 0,.slice none 0 0,.slice none 0 0,.slice none 0 0,.slice none 0 0,.int .i64 0],rfl,rfl,⟨[.slice none 0 0],[.bool false,.slice none 0 0,.slice none 0 0,.slice none 0 0,.slice none 0 0,.slice none 0 0,.int .i64 0],rfl,⟨none,0,rfl,dF _,ln _,.inl rfl⟩,⟨[.bool false],[.slice none 0 0,.slice none 0 0,.slice none 0 0,.slice none 0 0,.slice none 0 0,.int .i64 0],rfl,rfl,⟨[.slice none 0 0],[.slice none 0 0,.slice none 0 0,.slice none 0 0,.slice none 0 0,.int .i64 0],rfl,tB _,⟨[.slice none 0 0],[.slice none 0 0,.slice none 0 0,.slice none 0 0,.int .i64 0],rfl,⟨none,0,rfl,dF _,ln _,.inl rfl⟩,⟨[.slice none 0 0],[.slice none 0 0,.slice none 0 0,.int .i64 0],rfl,⟨none,0,rfl,dF _,ln _,.inl rfl⟩,⟨[.slice none 0 0],[.slice none 0 0,.int .i64 0],rfl,⟨none,0,rfl,dF _,ln _,.inl rfl⟩,⟨[.slice none 0 0],[.int .i64 0],rfl,⟨none,0,rfl,dF _,ln _,.inl rfl⟩,rfl⟩⟩⟩⟩⟩⟩⟩⟩⟩⟩⟩
structure bU where
 Nodes:(List am)
 deriving DecidableEq,Inhabited
def dO:Rp bU:=sP (hM aL) (fun x=>(x.Nodes))
theorem nF:pV dO 0 (hM aL) (fun x=>x.Nodes):=dY
theorem Lz:jT dO 0 (hM aL) (fun x y=>{x with Nodes:=y}):=dy an (fun _ _=>rfl)
theorem sw: ∀S,dO.rc S [.slice none 0 0] ((⟨[]⟩:bU)):=fun _=>⟨none,0,rfl,dF _,ln _,.inl rfl⟩
structure aE where
 Logic:bU
 kinds:(List (List Int))
 first:(List Int)
 deriving DecidableEq,Inhabited
def bj:Rp aE:=sP (dZ dO (dZ (hM (hM (rI .i64))) (hM (rI .i64)))) (fun x=>(x.Logic,x.kinds,x.first))
theorem vM:pV bj 0 dO (fun x=>x.Logic):=(gB dY)
theorem Hs:jT bj 0 dO (fun x y=>{x with Logic:=y}):=dy fL (fun _ _=>rfl)
theorem H5:pV bj 1 (hM (hM (rI .i64))) (fun x=>x.kinds):=(gB (be dY rfl))
theorem Hr:jT bj 1 (hM (hM (rI .i64))) (fun x y=>{x with kinds:=y}):=dy (bh fL rfl) (fun _ _=>rfl)
theorem AP:pV bj 2 (hM (rI .i64)) (fun x=>x.first):=(be (be dY rfl) rfl)
theorem Hq:jT bj 2 (hM (rI .i64)) (fun x y=>{x with first:=y}):=dy (bh (bh an rfl) rfl) (fun _ _=>rfl)
theorem Lj: ∀S,bj.rc S [.slice none 0 0,.slice none 0 0,.slice none 0 0] ((⟨(⟨[]⟩:bU),[],[]⟩:aE)):=fun _=>⟨[.slice none 0 0],[.slice none 0 0,.slice none 0 0],rfl,sw _,⟨[.slice none 0 0],[.slice none 0 0],rfl,⟨none,0,rfl,dF _,ln _,.inl rfl⟩,⟨none,0,rfl,dF _,ln _,.inl rfl⟩⟩⟩
structure iJ where
 Tables:(List (List (List ac)))
 deriving DecidableEq,Inhabited
def py:Rp iJ:=sP (hM (hM (hM af))) (fun x=>(x.Tables))
theorem BM:pV py 0 (hM (hM (hM af))) (fun x=>x.Tables):=dY
theorem Pa:jT py 0 (hM (hM (hM af))) (fun x y=>{x with Tables:=y}):=dy an (fun _ _=>rfl)
theorem Hc: ∀S,py.rc S [.slice none 0 0] ((⟨[]⟩:iJ)):=fun _=>⟨none,0,rfl,dF _,ln _,.inl rfl⟩
structure cX where
 Base:iJ
 rows:(List (List (List ac)))
 width:(List Int)
 deriving DecidableEq,Inhabited
def eD:Rp cX:=sP (dZ py (dZ (hM (hM (hM af))) (hM (rI .i64)))) (fun x=>(x.Base,x.rows,x.width))
theorem Ro:pV eD 0 py (fun x=>x.Base):=(gB dY)
theorem QF:jT eD 0 py (fun x y=>{x with Base:=y}):=dy fL (fun _ _=>rfl)
theorem QE:jT eD 1 (hM (hM (hM af))) (fun x y=>{x with rows:=y}):=dy (bh fL rfl) (fun _ _=>rfl)
theorem QD:jT eD 2 (hM (rI .i64)) (fun x y=>{x with width:=y}):=dy (bh (bh an rfl) rfl) (fun _ _=>rfl)
theorem WE: ∀S,eD.rc S [.slice none 0 0,.slice none 0 0,.slice none 0 0] ((⟨(⟨[]⟩:iJ),[],[]⟩:cX)):=fun _=>⟨[.slice none 0 0],[.slice none 0 0,.slice none 0 0],rfl,Hc _,⟨[.slice none 0 0],[.slice none 0 0],rfl,⟨none,0,rfl,dF _,ln _,.inl rfl⟩,⟨none,0,rfl,dF _,ln _,.inl rfl⟩⟩⟩
structure hU where
 Key:(List ac)
 Rows:(List (List ac))
 deriving DecidableEq,Inhabited
def fU:Rp hU:=sP (dZ (hM af) (hM (hM af))) (fun x=>(x.Key,x.Rows))
theorem Mq:pV fU 0 (hM af) (fun x=>x.Key):=(gB dY)
theorem LE:jT fU 0 (hM af) (fun x y=>{x with Key:=y}):=dy fL (fun _ _=>rfl)
theorem Mp:pV fU 1 (hM (hM af)) (fun x=>x.Rows):=(be dY rfl)
theorem LD:jT fU 1 (hM (hM af)) (fun x y=>{x with Rows:=y}):=dy (bh an rfl) (fun _ _=>rfl)
theorem Dy: ∀S,fU.rc S [.slice none 0 0,.slice none 0 0] ((⟨[],[]⟩:hU)):=fun _=>⟨[.slice none 0 0],[.slice none 0 0],rfl,⟨none,0,rfl,dF _,ln _,.inl rfl⟩,⟨none,0,rfl,dF _,ln _,.inl rfl⟩⟩
structure eP where
 D:(List Int)
 Below:Bool
 deriving DecidableEq,Inhabited
structure KO where
 Nodes:Value
def oM:Rp KO:=sP rV (fun x=>(x.Nodes))
theorem H4:pV oM 0 rV (fun x=>x.Nodes):=dY
def qj(y:bU)(v0:Value):KO:=⟨v0⟩
theorem Li: ∀S,oM.rc S [.slice none 0 0] (qj ((⟨[]⟩:bU)) (aS none 0 0)):=fun _=>⟨rfl,rfl⟩
structure abt where
 Tables:Value
structure KP where
 Op:Int
 A:Int
 B:Int
 Table:Int
 Kinds:(List Int)
 Left:Bool
 Cond:bL
 Keys:(List Int)
 Aggs:Value
 Items:(List bL)
 Order:(List dn)
 Limit:Int
def D5:Rp KP:=sP (dZ (rI .i64) (dZ (rI .i64) (dZ (rI .i64) (dZ (rI .i64) (dZ (hM (rI .i64)) (dZ rB (dZ cB (dZ (hM (rI .i64)) (dZ rV (dZ (hM cB) (dZ (hM d3) (rI .i64)))))))))))) (fun x=>(x.Op,x.A,x.B,x.Table,x.Kinds,x.Left,x.Cond,x.Keys,x.Aggs,x.Items,x.Order,x.Limit))
def Er(y:am)(v8:Value):KP:=⟨y.Op,y.A,y.B,y.Table,y.Kinds,y.Left,y.Cond,y.Keys,v8,y.Items,y.Order,y.Limit⟩
structure E7 where
 Op:Int
 A:Int
 B:Int
 Table:Int
 Kinds:(List Int)
 Left:Bool
 Cond:bL
 Keys:(List Int)
 Aggs:Value
 Items:Value
 Order:(List dn)
 Limit:Int
def kS:Rp E7:=sP (dZ (rI .i64) (dZ (rI .i64) (dZ (rI .i64) (dZ (rI .i64) (dZ (hM (rI .i64)) (dZ rB (dZ cB (dZ (hM (rI .i64)) (dZ rV (dZ rV (dZ (hM d3) (rI .i64)))))))))))) (fun x=>(x.Op,x.A,x.B,x.Table,x.Kinds,x.Left,x.Cond,x.Keys,x.Aggs,x.Items,x.Order,x.Limit))
theorem sY:pV kS 8 rV (fun x=>x.Aggs):=(gB (be (be (be (be (be (be (be (be dY rfl) rfl) rfl) rfl) rfl) rfl) rfl) rfl))
theorem sX:pV kS 9 rV (fun x=>x.Items):=(gB (be (be (be (be (be (be (be (be (be dY rfl) rfl) rfl) rfl) rfl) rfl) rfl) rfl) rfl))
def nS(y:am)(v8:Value)(v9:Value):E7:=⟨y.Op,y.A,y.B,y.Table,y.Kinds,y.Left,y.Cond,y.Keys,v8,v9,y.Order,y.Limit⟩
theorem C1{S:SH}{cs:List Value}{y:bU}{v0:Value}{xs0:(List am)}(k0:(hM aL).rc S [v0] xs0)(h:oM.rc S cs (qj y v0)):dO.rc S cs ((⟨xs0⟩:bU)):=by
 have h0:=h
 exact(by rw [h0.1];exact k0)
theorem A8{S:SH}{cs:List Value}{y:am}{v8:Value}{v9:Value}{xs8:(List hY)}(k8:(hM gm).rc S [v8] xs8){xs9:(List bL)}(k9:(hM cB).rc S [v9] xs9)(h:kS.rc S cs (nS y v8 v9)):aL.rc S cs ((⟨y.Op,y.A,y.B,y.Table,y.Kinds,y.Left,y.Cond,y.Keys,xs8,xs9,y.Order,y.Limit⟩:am)):=by
 obtain⟨a0,b0,e0,h0,a1,b1,e1,h1,a2,b2,e2,h2,a3,b3,e3,h3,a4,b4,e4,h4,a5,b5,e5,h5,a6,b6,e6,h6,a7,b7,e7,h7,a8,b8,e8,h8,a9,b9,e9,h9,a10,b10,e10,h10,h11⟩:=h
 exact⟨a0,b0,e0,h0,a1,b1,e1,h1,a2,b2,e2,h2,a3,b3,e3,h3,a4,b4,e4,h4,a5,b5,e5,h5,a6,b6,e6,h6,a7,b7,e7,h7,a8,b8,e8,(by rw [h8.1];exact k8),a9,b9,e9,(by rw [h9.1];exact k9),a10,b10,e10,h10,h11⟩
theorem wT(y:bU)(u:Value)(v:Value):vg oM oM 0 rV (qj y u) v (qj y v):=Hp (xF rfl) rfl
theorem zh(y:am)(v:Value):vg aL D5 8 rV (y) v (Er y v):=Hp (kR (kR (kR (kR (kR (kR (kR (kR (Ns (xF rfl) rfl) rfl) rfl) rfl) rfl) rfl) rfl) rfl) rfl) rfl
theorem vx(y:am)(v8:Value)(v:Value):vg D5 kS 9 rV (Er y v8) v (nS y v8 v):=Hp (kR (kR (kR (kR (kR (kR (kR (kR (kR (Ns (xF rfl) rfl) rfl) rfl) rfl) rfl) rfl) rfl) rfl) rfl) rfl) rfl
def dE(b:Nat)(x:aE)(i:OI):List OE:=[bx (rH bj [(1,aS (i.h 0).1 (i.h 0).2 x.kinds.length),(2,aS (i.h 1).1 (i.h 1).2 x.first.length)]) 115 b x,d5 (hM (rI .i64)) 39 (i.h 0).1 (i.h 0).2 x.kinds,d5 (rI .i64) 3 (i.h 1).1 (i.h 1).2 x.first]
def jn(b:Nat)(x:cX)(i:OI):List OE:=[bx (rH eD [(1,aS (i.h 0).1 (i.h 0).2 x.rows.length),(2,aS (i.h 1).1 (i.h 1).2 x.width.length)]) 96 b x,d5 (hM (hM af)) 32 (i.h 0).1 (i.h 0).2 x.rows,d5 (rI .i64) 3 (i.h 1).1 (i.h 1).2 x.width]
def gv2:(List ac):=[(⟨(1:Int),(0:Int),(0:Int),[]⟩:ac),(⟨(0:Int),(0:Int),(0:Int),[]⟩:ac),(⟨(1:Int),(1:Int),(0:Int),[]⟩:ac)]
theorem gm2:((2:Nat),([.int .i64 (1),.int .i64 (0),.int .u64 (0),.string ⟨([]:List UInt8).toArray⟩,.int .i64 (0),.int .i64 (0),.int .u64 (0),.string ⟨([]:List UInt8).toArray⟩,.int .i64 (1),.int .i64 (1),.int .u64 (0),.string ⟨([]:List UInt8).toArray⟩]:List Value))∈glob:=by simp [glob]
theorem gr2: ∀S,(ur af 3).rc S ([.int .i64 (1),.int .i64 (0),.int .u64 (0),.string ⟨([]:List UInt8).toArray⟩,.int .i64 (0),.int .i64 (0),.int .u64 (0),.string ⟨([]:List UInt8).toArray⟩,.int .i64 (1),.int .i64 (1),.int .u64 (0),.string ⟨([]:List UInt8).toArray⟩]:List Value) gv2:=fun _=>⟨rfl,⟨[.int .i64 (1),.int .i64 (0),.int .u64 (0),.string ⟨([]:List UInt8).toArray⟩],[.int .i64 (0),.int .i64 (0),.int .u64 (0),.string ⟨([]:List UInt8).toArray⟩,.int .i64 (1),.int .i64 (1),.int .u64 (0),.string ⟨([]:List UInt8).toArray⟩],rfl,⟨[.int .i64 (1)],[.int .i64 (0),.int .u64 (0),.string ⟨([]:List UInt8).toArray⟩],rfl,rfl,⟨[.int .i64 (0)],[.int .u64 (0),.string ⟨([]:List UInt8).toArray⟩],rfl,rfl,⟨[.int .u64 (0)],[.string ⟨([]:List UInt8).toArray⟩],rfl,rfl,rfl⟩⟩⟩,⟨[.int .i64 (0),.int .i64 (0),.int .u64 (0),.string ⟨([]:List UInt8).toArray⟩],[.int .i64 (1),.int .i64 (1),.int .u64 (0),.string ⟨([]:List UInt8).toArray⟩],rfl,⟨[.int .i64 (0)],[.int .i64 (0),.int .u64 (0),.string ⟨([]:List UInt8).toArray⟩],rfl,rfl,⟨[.int .i64 (0)],[.int .u64 (0),.string ⟨([]:List UInt8).toArray⟩],rfl,rfl,⟨[.int .u64 (0)],[.string ⟨([]:List UInt8).toArray⟩],rfl,rfl,rfl⟩⟩⟩,⟨[.int .i64 (1),.int .i64 (1),.int .u64 (0),.string ⟨([]:List UInt8).toArray⟩],[],rfl,⟨[.int .i64 (1)],[.int .i64 (1),.int .u64 (0),.string ⟨([]:List UInt8).toArray⟩],rfl,rfl,⟨[.int .i64 (1)],[.int .u64 (0),.string ⟨([]:List UInt8).toArray⟩],rfl,rfl,⟨[.int .u64 (0)],[.string ⟨([]:List UInt8).toArray⟩],rfl,rfl,rfl⟩⟩⟩,(rfl:_=[])⟩⟩⟩⟩

end Go.Proofs.YtfhhakidodmdfaaGreatDoor

