/- db of this claim: D. -/
import Derived.Test.YtfhhakidodmdfaaGreatDoorJbV3
import Derived.Test.YtfhhakidodmdfaaGreatDoorJbV4
set_option linter.all false
namespace Go.Proofs.YtfhhakidodmdfaaGreatDoor
open Go

structure ac where
 Kind:Int
 N:Int
 U:Int
 S:wB
 deriving DecidableEq,Inhabited
def af:Rp ac:=pT (cL (rI .i64) (cL (rI .i64) (cL (rI .u64) rS))) (fun x=>(x.Kind,x.N,x.U,x.S))
theorem cy:qf af 0 (rI .i64) (fun x=>x.Kind):=(gA dR)
theorem nI:jV af 0 (rI .i64) (fun x y=>{x with Kind:=y}):=dv fI (fun _ _=>rfl)
theorem fz:qf af 1 (rI .i64) (fun x=>x.N):=(gA (bg dR rfl))
theorem oY:jV af 1 (rI .i64) (fun x y=>{x with N:=y}):=dv (bj fI rfl) (fun _ _=>rfl)
theorem qC:qf af 2 (rI .u64) (fun x=>x.U):=(gA (bg (bg dR rfl) rfl))
theorem zr:jV af 2 (rI .u64) (fun x y=>{x with U:=y}):=dv (bj (bj fI rfl) rfl) (fun _ _=>rfl)
theorem nR:qf af 3 rS (fun x=>x.S):=(bg (bg (bg dR rfl) rfl) rfl)
theorem LE:jV af 3 rS (fun x y=>{x with S:=y}):=dv (bj (bj (bj an rfl) rfl) rfl) (fun _ _=>rfl)
theorem bh: ∀S,af.rc S [.int .i64 0,.int .i64 0,.int .u64 0,.string ⟨#[]⟩] ((⟨(0:Int),(0:Int),(0:Int),[]⟩:ac)):=fun _=>⟨[.int .i64 0],[.int .i64 0,.int .u64 0,.string ⟨#[]⟩],rfl,rfl,⟨[.int .i64 0],[.int .u64 0,.string ⟨#[]⟩],rfl,rfl,⟨[.int .u64 0],[.string ⟨#[]⟩],rfl,rfl,rfl⟩⟩⟩
structure aX where
 Tag:Int
 L:Int
 R:Int
 Col:Int
 Value:ac
 deriving DecidableEq,Inhabited
def bG:Rp aX:=pT (cL (rI .i64) (cL (rI .i64) (cL (rI .i64) (cL (rI .i64) af)))) (fun x=>(x.Tag,x.L,x.R,x.Col,x.Value))
theorem gU:qf bG 0 (rI .i64) (fun x=>x.Tag):=(gA dR)
theorem LP:jV bG 0 (rI .i64) (fun x y=>{x with Tag:=y}):=dv fI (fun _ _=>rfl)
theorem Mw:qf bG 1 (rI .i64) (fun x=>x.L):=(gA (bg dR rfl))
theorem LO:jV bG 1 (rI .i64) (fun x y=>{x with L:=y}):=dv (bj fI rfl) (fun _ _=>rfl)
theorem Mv:qf bG 2 (rI .i64) (fun x=>x.R):=(gA (bg (bg dR rfl) rfl))
theorem LN:jV bG 2 (rI .i64) (fun x y=>{x with R:=y}):=dv (bj (bj fI rfl) rfl) (fun _ _=>rfl)
theorem o9:qf bG 3 (rI .i64) (fun x=>x.Col):=(gA (bg (bg (bg dR rfl) rfl) rfl))
theorem LM:jV bG 3 (rI .i64) (fun x y=>{x with Col:=y}):=dv (bj (bj (bj fI rfl) rfl) rfl) (fun _ _=>rfl)
theorem qD:qf bG 4 af (fun x=>x.Value):=(bg (bg (bg (bg dR rfl) rfl) rfl) rfl)
theorem uJ: ∀S,bG.rc S [.int .i64 0,.int .i64 0,.int .i64 0,.int .i64 0,.int .i64 0,.int .i64 0,.int .u64 0,.string ⟨#[]⟩] ((⟨(0:Int),(0:Int),(0:Int),(0:Int),(⟨(0:Int),(0:Int),(0:Int),[]⟩:ac)⟩:aX)):=fun _=>⟨[.int .i64 0],[.int .i64 0,.int .i64 0,.int .i64 0,.int .i64 0,.int .i64 0,.int .u64 0,.string ⟨#[]⟩],rfl,rfl,⟨[.int .i64 0],[.int .i64 0,.int .i64 0,.int .i64 0,.int .i64 0,.int .u64 0,.string ⟨#[]⟩],rfl,rfl,⟨[.int .i64 0],[.int .i64 0,.int .i64 0,.int .i64 0,.int .u64 0,.string ⟨#[]⟩],rfl,rfl,⟨[.int .i64 0],[.int .i64 0,.int .i64 0,.int .u64 0,.string ⟨#[]⟩],rfl,rfl,bh _⟩⟩⟩⟩
structure br where
 Nodes:(List aX)
 deriving DecidableEq,Inhabited
def bT:Rp br:=pT (fW bG) (fun x=>(x.Nodes))
theorem ke:qf bT 0 (fW bG) (fun x=>x.Nodes):=dR
theorem xL:jV bT 0 (fW bG) (fun x y=>{x with Nodes:=y}):=dv an (fun _ _=>rfl)
theorem rP: ∀S,bT.rc S [.slice none 0 0] ((⟨[]⟩:br)):=fun _=>⟨none,0,rfl,dK _,lC _,.inl rfl⟩
structure ea where
 Tag:Int
 Arg:br
 deriving DecidableEq,Inhabited
def eg:Rp ea:=pT (cL (rI .i64) bT) (fun x=>(x.Tag,x.Arg))
theorem rm:qf eg 0 (rI .i64) (fun x=>x.Tag):=(gA dR)
theorem Jt:jV eg 0 (rI .i64) (fun x y=>{x with Tag:=y}):=dv fI (fun _ _=>rfl)
theorem te:qf eg 1 bT (fun x=>x.Arg):=(bg dR rfl)
theorem Js:jV eg 1 bT (fun x y=>{x with Arg:=y}):=dv (bj an rfl) (fun _ _=>rfl)
theorem DI: ∀S,eg.rc S [.int .i64 0,.slice none 0 0] ((⟨(0:Int),(⟨[]⟩:br)⟩:ea)):=fun _=>⟨[.int .i64 0],[.slice none 0 0],rfl,rfl,rP _⟩
structure gL where
 Col:Int
 Desc:Bool
 deriving DecidableEq,Inhabited
def gG:Rp gL:=pT (cL (rI .i64) rB) (fun x=>(x.Col,x.Desc))
theorem AX:qf gG 0 (rI .i64) (fun x=>x.Col):=(gA dR)
theorem RC:qf gG 1 rB (fun x=>x.Desc):=(bg dR rfl)
theorem WW: ∀S,gG.rc S [.int .i64 0,.bool false] ((⟨(0:Int),false⟩:gL)):=fun _=>⟨[.int .i64 0],[.bool false],rfl,rfl,rfl⟩
structure am where
 Op:Int
 A:Int
 B:Int
 Table:Int
 Kinds:(List Int)
 Left:Bool
 Cond:br
 Keys:(List Int)
 Aggs:(List ea)
 Items:(List br)
 Order:(List gL)
 Limit:Int
 deriving DecidableEq,Inhabited
def aI:Rp am:=pT (cL (rI .i64) (cL (rI .i64) (cL (rI .i64) (cL (rI .i64) (cL (fW (rI .i64)) (cL rB (cL bT (cL (fW (rI .i64)) (cL (fW eg) (cL (fW bT) (cL (fW gG) (rI .i64)))))))))))) (fun x=>(x.Op,x.A,x.B,x.Table,x.Kinds,x.Left,x.Cond,x.Keys,x.Aggs,x.Items,x.Order,x.Limit))
theorem o8:qf aI 0 (rI .i64) (fun x=>x.Op):=(gA dR)
theorem D8:jV aI 0 (rI .i64) (fun x y=>{x with Op:=y}):=dv fI (fun _ _=>rfl)
theorem dP:qf aI 1 (rI .i64) (fun x=>x.A):=(gA (bg dR rfl))
theorem D7:jV aI 1 (rI .i64) (fun x y=>{x with A:=y}):=dv (bj fI rfl) (fun _ _=>rfl)
theorem kC:qf aI 2 (rI .i64) (fun x=>x.B):=(gA (bg (bg dR rfl) rfl))
theorem zw:jV aI 2 (rI .i64) (fun x y=>{x with B:=y}):=dv (bj (bj fI rfl) rfl) (fun _ _=>rfl)
theorem mC:qf aI 3 (rI .i64) (fun x=>x.Table):=(gA (bg (bg (bg dR rfl) rfl) rfl))
theorem LJ:jV aI 3 (rI .i64) (fun x y=>{x with Table:=y}):=dv (bj (bj (bj fI rfl) rfl) rfl) (fun _ _=>rfl)
theorem nS:qf aI 4 (fW (rI .i64)) (fun x=>x.Kinds):=(gA (bg (bg (bg (bg dR rfl) rfl) rfl) rfl))
theorem zu:jV aI 4 (fW (rI .i64)) (fun x y=>{x with Kinds:=y}):=dv (bj (bj (bj (bj fI rfl) rfl) rfl) rfl) (fun _ _=>rfl)
theorem EX:qf aI 5 rB (fun x=>x.Left):=(gA (bg (bg (bg (bg (bg dR rfl) rfl) rfl) rfl) rfl))
theorem LI:jV aI 5 rB (fun x y=>{x with Left:=y}):=dv (bj (bj (bj (bj (bj fI rfl) rfl) rfl) rfl) rfl) (fun _ _=>rfl)
theorem mB:qf aI 6 bT (fun x=>x.Cond):=(gA (bg (bg (bg (bg (bg (bg dR rfl) rfl) rfl) rfl) rfl) rfl))
theorem zt:jV aI 6 bT (fun x y=>{x with Cond:=y}):=dv (bj (bj (bj (bj (bj (bj fI rfl) rfl) rfl) rfl) rfl) rfl) (fun _ _=>rfl)
theorem mA:qf aI 7 (fW (rI .i64)) (fun x=>x.Keys):=(gA (bg (bg (bg (bg (bg (bg (bg dR rfl) rfl) rfl) rfl) rfl) rfl) rfl))
theorem D6:jV aI 7 (fW (rI .i64)) (fun x y=>{x with Keys:=y}):=dv (bj (bj (bj (bj (bj (bj (bj fI rfl) rfl) rfl) rfl) rfl) rfl) rfl) (fun _ _=>rfl)
theorem mz:qf aI 8 (fW eg) (fun x=>x.Aggs):=(gA (bg (bg (bg (bg (bg (bg (bg (bg dR rfl) rfl) rfl) rfl) rfl) rfl) rfl) rfl))
theorem D5:jV aI 8 (fW eg) (fun x y=>{x with Aggs:=y}):=dv (bj (bj (bj (bj (bj (bj (bj (bj fI rfl) rfl) rfl) rfl) rfl) rfl) rfl) rfl) (fun _ _=>rfl)
theorem lu:qf aI 9 (fW bT) (fun x=>x.Items):=(gA (bg (bg (bg (bg (bg (bg (bg (bg (bg dR rfl) rfl) rfl) rfl) rfl) rfl) rfl) rfl) rfl))
theorem LH:jV aI 9 (fW bT) (fun x y=>{x with Items:=y}):=dv (bj (bj (bj (bj (bj (bj (bj (bj (bj fI rfl) rfl) rfl) rfl) rfl) rfl) rfl) rfl) rfl) (fun _ _=>rfl)
theorem pw:qf aI 10 (fW gG) (fun x=>x.Order):=(gA (bg (bg (bg (bg (bg (bg (bg (bg (bg (bg dR rfl) rfl) rfl) rfl) rfl) rfl) rfl) rfl) rfl) rfl))
theorem Cy:jV aI 10 (fW gG) (fun x y=>{x with Order:=y}):=dv (bj (bj (bj (bj (bj (bj (bj (bj (bj (bj fI rfl) rfl) rfl) rfl) rfl) rfl) rfl) rfl) rfl) rfl) (fun _ _=>rfl)
theorem ua:qf aI 11 (rI .i64) (fun x=>x.Limit):=(bg (bg (bg (bg (bg (bg (bg (bg (bg (bg (bg dR rfl) rfl) rfl) rfl) rfl) rfl) rfl) rfl) rfl) rfl) rfl)
theorem Jr:jV aI 11 (rI .i64) (fun x y=>{x with Limit:=y}):=dv (bj (bj (bj (bj (bj (bj (bj (bj (bj (bj (bj an rfl) rfl) rfl) rfl) rfl) rfl) rfl) rfl) rfl) rfl) rfl) (fun _ _=>rfl)
theorem ny: ∀S,aI.rc S [.int .i64 0,.int .i64 0,.int .i64 0,.int .i64 0,.slice none 0 0,.bool false,.slice none 0 0,.slice none 0 0,.slice none 0 0,.slice none 0 0,.slice none 0 0,.int .i64 0] ((⟨(0:Int),(0:Int),(0:Int),(0:Int),[],false,(⟨[]⟩:br),[],[],[],[],(0:Int)⟩:am)):=fun _=>⟨[.int .i64 0],[.int .i64 0,.int .i64 0,.int .i64 0,.slice none 0 0,.bool false,.slice none 0 0,.slice none 0 0,.slice none 0 0,.slice none 0 0,.slice none 0 0,.int .i64 0],rfl,rfl,⟨[.int .i64 0],[.int .i64 0,.int .i64 0,.slice none 0 0,.bool false,.slice none 0 0,.slice none 0 0,.slice none 0 0,.slice none 0 0,.slice none 0 0,.int .i64 0],rfl,rfl,⟨[.int .i64 0],[.int .i64 0,.slice none 0 0,.bool false,.slice none 0 0,.slice none 0 0,.slice none 0 0,.slice none 0 0,.slice none 0 0,.int .i64 0],rfl,rfl,⟨[.int .i64 0],[.slice none 0 0,.bool false,.slice none 0 0,.slice none 0 0,.slice none 0 0,.slice none 0 0,.slice none 0 0,.int .i64 0],rfl,rfl,⟨[.slice none 0 0],[.bool false,.slice none 0 0,.slice none 0 0,.slice none 0 0,.slice none 0 0,.slice none 0 0,.int .i64 0],rfl,⟨none,0,rfl,dK _,lC _,.inl rfl⟩,⟨[.bool false],[.slice none 0 0,.slice none 0 0,.slice none 0 0,.slice none 0 0,.slice none 0 0,.int .i64 0],rfl,rfl,⟨[.slice none 0 0],[.slice none 0 0,.slice none 0 0,.slice none 0 0,.slice none 0 0,.int .i64 0],rfl,rP _,⟨[.slice none 0 0],[.slice none 0 0,.slice none 0 0,.slice none 0 0,.int .i64 0],rfl,⟨none,0,rfl,dK _,lC _,.inl rfl⟩,⟨[.slice none 0 0],[.slice none 0 0,.slice none 0 0,.int .i64 0],rfl,⟨none,0,rfl,dK _,lC _,.inl rfl⟩,⟨[.slice none 0 0],[.slice none 0 0,.int .i64 0],rfl,⟨none,0,rfl,dK _,lC _,.inl rfl⟩,⟨[.slice none 0 0],[.int .i64 0],rfl,⟨none,0,rfl,dK _,lC _,.inl rfl⟩,rfl⟩⟩⟩⟩⟩⟩⟩⟩⟩⟩⟩
structure bN where
 Nodes:(List am)
 deriving DecidableEq,Inhabited
def cZ:Rp bN:=pT (fW aI) (fun x=>(x.Nodes))
theorem kz:qf cZ 0 (fW aI) (fun x=>x.Nodes):=dR
theorem LF:jV cZ 0 (fW aI) (fun x y=>{x with Nodes:=y}):=dv an (fun _ _=>rfl)
theorem sJ: ∀S,cZ.rc S [.slice none 0 0] ((⟨[]⟩:bN)):=fun _=>⟨none,0,rfl,dK _,lC _,.inl rfl⟩
structure aE where
 Logic:bN
 kinds:(List (List Int))
 first:(List Int)
 deriving DecidableEq,Inhabited
def bk:Rp aE:=pT (cL cZ (cL (fW (fW (rI .i64))) (fW (rI .i64)))) (fun x=>(x.Logic,x.kinds,x.first))
theorem vU:qf bk 0 cZ (fun x=>x.Logic):=(gA dR)
theorem HG:jV bk 0 cZ (fun x y=>{x with Logic:=y}):=dv fI (fun _ _=>rfl)
theorem Ii:qf bk 1 (fW (fW (rI .i64))) (fun x=>x.kinds):=(gA (bg dR rfl))
theorem HF:jV bk 1 (fW (fW (rI .i64))) (fun x y=>{x with kinds:=y}):=dv (bj fI rfl) (fun _ _=>rfl)
theorem AW:qf bk 2 (fW (rI .i64)) (fun x=>x.first):=(bg (bg dR rfl) rfl)
theorem HE:jV bk 2 (fW (rI .i64)) (fun x y=>{x with first:=y}):=dv (bj (bj an rfl) rfl) (fun _ _=>rfl)
theorem Lq: ∀S,bk.rc S [.slice none 0 0,.slice none 0 0,.slice none 0 0] ((⟨(⟨[]⟩:bN),[],[]⟩:aE)):=fun _=>⟨[.slice none 0 0],[.slice none 0 0,.slice none 0 0],rfl,sJ _,⟨[.slice none 0 0],[.slice none 0 0],rfl,⟨none,0,rfl,dK _,lC _,.inl rfl⟩,⟨none,0,rfl,dK _,lC _,.inl rfl⟩⟩⟩
structure eD where
 Tables:(List (List (List ac)))
 deriving DecidableEq,Inhabited
def kG:Rp eD:=pT (fW (fW (fW af))) (fun x=>(x.Tables))
theorem qE:qf kG 0 (fW (fW (fW af))) (fun x=>x.Tables):=dR
theorem Pd:jV kG 0 (fW (fW (fW af))) (fun x y=>{x with Tables:=y}):=dv an (fun _ _=>rfl)
theorem Hn: ∀S,kG.rc S [.slice none 0 0] ((⟨[]⟩:eD)):=fun _=>⟨none,0,rfl,dK _,lC _,.inl rfl⟩
structure cT where
 Base:eD
 rows:(List (List (List ac)))
 width:(List Int)
 deriving DecidableEq,Inhabited
def ee:Rp cT:=pT (cL kG (cL (fW (fW (fW af))) (fW (rI .i64)))) (fun x=>(x.Base,x.rows,x.width))
theorem RB:qf ee 0 kG (fun x=>x.Base):=(gA dR)
theorem QM:jV ee 0 kG (fun x y=>{x with Base:=y}):=dv fI (fun _ _=>rfl)
theorem QL:jV ee 1 (fW (fW (fW af))) (fun x y=>{x with rows:=y}):=dv (bj fI rfl) (fun _ _=>rfl)
theorem QK:jV ee 2 (fW (rI .i64)) (fun x y=>{x with width:=y}):=dv (bj (bj an rfl) rfl) (fun _ _=>rfl)
theorem WV: ∀S,ee.rc S [.slice none 0 0,.slice none 0 0,.slice none 0 0] ((⟨(⟨[]⟩:eD),[],[]⟩:cT)):=fun _=>⟨[.slice none 0 0],[.slice none 0 0,.slice none 0 0],rfl,Hn _,⟨[.slice none 0 0],[.slice none 0 0],rfl,⟨none,0,rfl,dK _,lC _,.inl rfl⟩,⟨none,0,rfl,dK _,lC _,.inl rfl⟩⟩⟩
structure ic where
 Key:(List ac)
 Rows:(List (List ac))
 deriving DecidableEq,Inhabited
def fP:Rp ic:=pT (cL (fW af) (fW (fW af))) (fun x=>(x.Key,x.Rows))
theorem Mu:qf fP 0 (fW af) (fun x=>x.Key):=(gA dR)
theorem LL:jV fP 0 (fW af) (fun x y=>{x with Key:=y}):=dv fI (fun _ _=>rfl)
theorem Mt:qf fP 1 (fW (fW af)) (fun x=>x.Rows):=(bg dR rfl)
theorem LK:jV fP 1 (fW (fW af)) (fun x y=>{x with Rows:=y}):=dv (bj an rfl) (fun _ _=>rfl)
theorem DH: ∀S,fP.rc S [.slice none 0 0,.slice none 0 0] ((⟨[],[]⟩:ic)):=fun _=>⟨[.slice none 0 0],[.slice none 0 0],rfl,⟨none,0,rfl,dK _,lC _,.inl rfl⟩,⟨none,0,rfl,dK _,lC _,.inl rfl⟩⟩
structure eN where
 D:(List Int)
 Below:Bool
 deriving DecidableEq,Inhabited
structure KZ where
 Nodes:Value
def oZ:Rp KZ:=pT rV (fun x=>(x.Nodes))
theorem Ih:qf oZ 0 rV (fun x=>x.Nodes):=dR
def qz(y:bN)(v0:Value):KZ:=⟨v0⟩
theorem Lp: ∀S,oZ.rc S [.slice none 0 0] (qz ((⟨[]⟩:bN)) (aR none 0 0)):=fun _=>⟨rfl,rfl⟩
structure abU where
 Tables:Value
structure K0 where
 Op:Int
 A:Int
 B:Int
 Table:Int
 Kinds:(List Int)
 Left:Bool
 Cond:br
 Keys:(List Int)
 Aggs:Value
 Items:(List br)
 Order:(List gL)
 Limit:Int
def Ef:Rp K0:=pT (cL (rI .i64) (cL (rI .i64) (cL (rI .i64) (cL (rI .i64) (cL (fW (rI .i64)) (cL rB (cL bT (cL (fW (rI .i64)) (cL rV (cL (fW bT) (cL (fW gG) (rI .i64)))))))))))) (fun x=>(x.Op,x.A,x.B,x.Table,x.Kinds,x.Left,x.Cond,x.Keys,x.Aggs,x.Items,x.Order,x.Limit))
def EI(y:am)(v8:Value):K0:=⟨y.Op,y.A,y.B,y.Table,y.Kinds,y.Left,y.Cond,y.Keys,v8,y.Items,y.Order,y.Limit⟩
structure Fq where
 Op:Int
 A:Int
 B:Int
 Table:Int
 Kinds:(List Int)
 Left:Bool
 Cond:br
 Keys:(List Int)
 Aggs:Value
 Items:Value
 Order:(List gL)
 Limit:Int
def k5:Rp Fq:=pT (cL (rI .i64) (cL (rI .i64) (cL (rI .i64) (cL (rI .i64) (cL (fW (rI .i64)) (cL rB (cL bT (cL (fW (rI .i64)) (cL rV (cL rV (cL (fW gG) (rI .i64)))))))))))) (fun x=>(x.Op,x.A,x.B,x.Table,x.Kinds,x.Left,x.Cond,x.Keys,x.Aggs,x.Items,x.Order,x.Limit))
theorem td:qf k5 8 rV (fun x=>x.Aggs):=(gA (bg (bg (bg (bg (bg (bg (bg (bg dR rfl) rfl) rfl) rfl) rfl) rfl) rfl) rfl))
theorem ta:qf k5 9 rV (fun x=>x.Items):=(gA (bg (bg (bg (bg (bg (bg (bg (bg (bg dR rfl) rfl) rfl) rfl) rfl) rfl) rfl) rfl) rfl))
def od(y:am)(v8:Value)(v9:Value):Fq:=⟨y.Op,y.A,y.B,y.Table,y.Kinds,y.Left,y.Cond,y.Keys,v8,v9,y.Order,y.Limit⟩
theorem C9{S:SH}{cs:List Value}{y:bN}{v0:Value}{xs0:(List am)}(k0:(fW aI).rc S [v0] xs0)(h:oZ.rc S cs (qz y v0)):cZ.rc S cs ((⟨xs0⟩:bN)):=by
 have h0:=h
 exact(by rw [h0.1];exact k0)
theorem Be{S:SH}{cs:List Value}{y:am}{v8:Value}{v9:Value}{xs8:(List ea)}(k8:(fW eg).rc S [v8] xs8){xs9:(List br)}(k9:(fW bT).rc S [v9] xs9)(h:k5.rc S cs (od y v8 v9)):aI.rc S cs ((⟨y.Op,y.A,y.B,y.Table,y.Kinds,y.Left,y.Cond,y.Keys,xs8,xs9,y.Order,y.Limit⟩:am)):=by
 obtain⟨a0,b0,e0,h0,a1,b1,e1,h1,a2,b2,e2,h2,a3,b3,e3,h3,a4,b4,e4,h4,a5,b5,e5,h5,a6,b6,e6,h6,a7,b7,e7,h7,a8,b8,e8,h8,a9,b9,e9,h9,a10,b10,e10,h10,h11⟩:=h
 exact⟨a0,b0,e0,h0,a1,b1,e1,h1,a2,b2,e2,h2,a3,b3,e3,h3,a4,b4,e4,h4,a5,b5,e5,h5,a6,b6,e6,h6,a7,b7,e7,h7,a8,b8,e8,(by rw [h8.1];exact k8),a9,b9,e9,(by rw [h9.1];exact k9),a10,b10,e10,h10,h11⟩
theorem wS(y:bN)(u:Value)(v:Value):vi oZ oZ 0 rV (qz y u) v (qz y v):=HD (uR rfl) rfl
theorem zm(y:am)(v:Value):vi aI Ef 8 rV (y) v (EI y v):=HD (kZ (kZ (kZ (kZ (kZ (kZ (kZ (kZ (Ny (uR rfl) rfl) rfl) rfl) rfl) rfl) rfl) rfl) rfl) rfl) rfl
theorem vE(y:am)(v8:Value)(v:Value):vi Ef k5 9 rV (EI y v8) v (od y v8 v):=HD (kZ (kZ (kZ (kZ (kZ (kZ (kZ (kZ (kZ (Ny (uR rfl) rfl) rfl) rfl) rfl) rfl) rfl) rfl) rfl) rfl) rfl) rfl
def dB(b:Nat)(x:aE)(i:OI):List OE:=[bx (rH bk [(1,aR (i.h 0).1 (i.h 0).2 x.kinds.length),(2,aR (i.h 1).1 (i.h 1).2 x.first.length)]) 115 b x,dV (fW (rI .i64)) 39 (i.h 0).1 (i.h 0).2 x.kinds,dV (rI .i64) 3 (i.h 1).1 (i.h 1).2 x.first]
def jq(b:Nat)(x:cT)(i:OI):List OE:=[bx (rH ee [(1,aR (i.h 0).1 (i.h 0).2 x.rows.length),(2,aR (i.h 1).1 (i.h 1).2 x.width.length)]) 96 b x,dV (fW (fW af)) 32 (i.h 0).1 (i.h 0).2 x.rows,dV (rI .i64) 3 (i.h 1).1 (i.h 1).2 x.width]
def gv2:(List ac):=[(⟨(1:Int),(0:Int),(0:Int),[]⟩:ac),(⟨(0:Int),(0:Int),(0:Int),[]⟩:ac),(⟨(1:Int),(1:Int),(0:Int),[]⟩:ac)]
theorem gm2:((2:Nat),([.int .i64 (1),.int .i64 (0),.int .u64 (0),.string ⟨([]:List UInt8).toArray⟩,.int .i64 (0),.int .i64 (0),.int .u64 (0),.string ⟨([]:List UInt8).toArray⟩,.int .i64 (1),.int .i64 (1),.int .u64 (0),.string ⟨([]:List UInt8).toArray⟩]:List Value))∈glob:=by simp [glob]
theorem gr2: ∀S,(uz af 3).rc S ([.int .i64 (1),.int .i64 (0),.int .u64 (0),.string ⟨([]:List UInt8).toArray⟩,.int .i64 (0),.int .i64 (0),.int .u64 (0),.string ⟨([]:List UInt8).toArray⟩,.int .i64 (1),.int .i64 (1),.int .u64 (0),.string ⟨([]:List UInt8).toArray⟩]:List Value) gv2:=fun _=>⟨rfl,⟨[.int .i64 (1),.int .i64 (0),.int .u64 (0),.string ⟨([]:List UInt8).toArray⟩],[.int .i64 (0),.int .i64 (0),.int .u64 (0),.string ⟨([]:List UInt8).toArray⟩,.int .i64 (1),.int .i64 (1),.int .u64 (0),.string ⟨([]:List UInt8).toArray⟩],rfl,⟨[.int .i64 (1)],[.int .i64 (0),.int .u64 (0),.string ⟨([]:List UInt8).toArray⟩],rfl,rfl,⟨[.int .i64 (0)],[.int .u64 (0),.string ⟨([]:List UInt8).toArray⟩],rfl,rfl,⟨[.int .u64 (0)],[.string ⟨([]:List UInt8).toArray⟩],rfl,rfl,rfl⟩⟩⟩,⟨[.int .i64 (0),.int .i64 (0),.int .u64 (0),.string ⟨([]:List UInt8).toArray⟩],[.int .i64 (1),.int .i64 (1),.int .u64 (0),.string ⟨([]:List UInt8).toArray⟩],rfl,⟨[.int .i64 (0)],[.int .i64 (0),.int .u64 (0),.string ⟨([]:List UInt8).toArray⟩],rfl,rfl,⟨[.int .i64 (0)],[.int .u64 (0),.string ⟨([]:List UInt8).toArray⟩],rfl,rfl,⟨[.int .u64 (0)],[.string ⟨([]:List UInt8).toArray⟩],rfl,rfl,rfl⟩⟩⟩,⟨[.int .i64 (1),.int .i64 (1),.int .u64 (0),.string ⟨([]:List UInt8).toArray⟩],[],rfl,⟨[.int .i64 (1)],[.int .i64 (1),.int .u64 (0),.string ⟨([]:List UInt8).toArray⟩],rfl,rfl,⟨[.int .i64 (1)],[.int .u64 (0),.string ⟨([]:List UInt8).toArray⟩],rfl,rfl,⟨[.int .u64 (0)],[.string ⟨([]:List UInt8).toArray⟩],rfl,rfl,rfl⟩⟩⟩,(rfl:_=[])⟩⟩⟩⟩

end Go.Proofs.YtfhhakidodmdfaaGreatDoor

