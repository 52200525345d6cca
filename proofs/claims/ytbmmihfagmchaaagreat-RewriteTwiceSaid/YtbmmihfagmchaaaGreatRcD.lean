/- cW of this claim: D. -/
import Derived.Test.YtbmmihfagmchaaaGreatRcV3
import Derived.Test.YtbmmihfagmchaaaGreatRcV4
set_option linter.all false
namespace Go.Proofs.YtbmmihfagmchaaaGreat
open Go

structure bN where
 Kind:Int
 N:Int
 U:Int
 S:Jc
 deriving DecidableEq,Inhabited
def dA:Rp bN:=nP (cx (rI .i64) (cx (rI .i64) (cx (rI .u64) rS))) (fun x=>(x.Kind,x.N,x.U,x.S))
def tk:mj dA 0 (rI .i64) (fun x=>x.Kind):=(fk di)
def qL:ij dA 0 (rI .i64) (fun x y=>{x with Kind:=y}):=cS eC (fun _ _=>rfl)
def wo:mj dA 1 (rI .i64) (fun x=>x.N):=(fk (aH di rfl))
def s4:ij dA 1 (rI .i64) (fun x y=>{x with N:=y}):=cS (aC eC rfl) (fun _ _=>rfl)
def Gm:mj dA 2 (rI .u64) (fun x=>x.U):=(fk (aH (aH di rfl) rfl))
def FP:ij dA 2 (rI .u64) (fun x y=>{x with U:=y}):=cS (aC (aC eC rfl) rfl) (fun _ _=>rfl)
def th:mj dA 3 rS (fun x=>x.S):=(aH (aH (aH di rfl) rfl) rfl)
def z7:ij dA 3 rS (fun x y=>{x with S:=y}):=cS (aC (aC (aC ac rfl) rfl) rfl) (fun _ _=>rfl)
def mQ: ∀S,dA.rc S [.int .i64 0,.int .i64 0,.int .u64 0,.string ⟨#[]⟩] ((⟨(0:Int),(0:Int),(0:Int),[]⟩:bN)):=fun _=>⟨[.int .i64 0],[.int .i64 0,.int .u64 0,.string ⟨#[]⟩],rfl,rfl,⟨[.int .i64 0],[.int .u64 0,.string ⟨#[]⟩],rfl,rfl,⟨[.int .u64 0],[.string ⟨#[]⟩],rfl,rfl,rfl⟩⟩⟩
structure aj where
 Tag:Int
 L:Int
 R:Int
 Col:Int
 Value:bN
 deriving DecidableEq,Inhabited
def ap:Rp aj:=nP (cx (rI .i64) (cx (rI .i64) (cx (rI .i64) (cx (rI .i64) dA)))) (fun x=>(x.Tag,x.L,x.R,x.Col,x.Value))
def eH:mj ap 0 (rI .i64) (fun x=>x.Tag):=(fk di)
def lT:ij ap 0 (rI .i64) (fun x y=>{x with Tag:=y}):=cS eC (fun _ _=>rfl)
def kU:mj ap 1 (rI .i64) (fun x=>x.L):=(fk (aH di rfl))
def oQ:ij ap 1 (rI .i64) (fun x y=>{x with L:=y}):=cS (aC eC rfl) (fun _ _=>rfl)
def kT:mj ap 2 (rI .i64) (fun x=>x.R):=(fk (aH (aH di rfl) rfl))
def oP:ij ap 2 (rI .i64) (fun x y=>{x with R:=y}):=cS (aC (aC eC rfl) rfl) (fun _ _=>rfl)
def ie:mj ap 3 (rI .i64) (fun x=>x.Col):=(fk (aH (aH (aH di rfl) rfl) rfl))
def vY:ij ap 3 (rI .i64) (fun x y=>{x with Col:=y}):=cS (aC (aC (aC eC rfl) rfl) rfl) (fun _ _=>rfl)
def kS:mj ap 4 dA (fun x=>x.Value):=(aH (aH (aH (aH di rfl) rfl) rfl) rfl)
def Ac:ij ap 4 dA (fun x y=>{x with Value:=y}):=cS (aC (aC (aC (aC ac rfl) rfl) rfl) rfl) (fun _ _=>rfl)
def iB: ∀S,ap.rc S [.int .i64 0,.int .i64 0,.int .i64 0,.int .i64 0,.int .i64 0,.int .i64 0,.int .u64 0,.string ⟨#[]⟩] ((⟨(0:Int),(0:Int),(0:Int),(0:Int),(⟨(0:Int),(0:Int),(0:Int),[]⟩:bN)⟩:aj)):=fun _=>⟨[.int .i64 0],[.int .i64 0,.int .i64 0,.int .i64 0,.int .i64 0,.int .i64 0,.int .u64 0,.string ⟨#[]⟩],rfl,rfl,⟨[.int .i64 0],[.int .i64 0,.int .i64 0,.int .i64 0,.int .i64 0,.int .u64 0,.string ⟨#[]⟩],rfl,rfl,⟨[.int .i64 0],[.int .i64 0,.int .i64 0,.int .i64 0,.int .u64 0,.string ⟨#[]⟩],rfl,rfl,⟨[.int .i64 0],[.int .i64 0,.int .i64 0,.int .u64 0,.string ⟨#[]⟩],rfl,rfl,mQ _⟩⟩⟩⟩
structure ai where
 Nodes:(List aj)
 deriving DecidableEq,Inhabited
def af:Rp ai:=nP (gJ ap) (fun x=>(x.Nodes))
def cG:mj af 0 (gJ ap) (fun x=>x.Nodes):=di
def qv:ij af 0 (gJ ap) (fun x y=>{x with Nodes:=y}):=cS ac (fun _ _=>rfl)
def cB: ∀S,af.rc S [.slice none 0 0] ((⟨[]⟩:ai)):=fun _=>⟨none,0,rfl,dr _,mJ _,.inl rfl⟩
structure gQ where
 Tag:Int
 Arg:ai
 deriving DecidableEq,Inhabited
def dl:Rp gQ:=nP (cx (rI .i64) af) (fun x=>(x.Tag,x.Arg))
def xg:mj dl 0 (rI .i64) (fun x=>x.Tag):=(fk di)
def q9:mj dl 1 af (fun x=>x.Arg):=(aH di rfl)
def D2:ij dl 1 af (fun x y=>{x with Arg:=y}):=cS (aC ac rfl) (fun _ _=>rfl)
def CF: ∀S,dl.rc S [.int .i64 0,.slice none 0 0] ((⟨(0:Int),(⟨[]⟩:ai)⟩:gQ)):=fun _=>⟨[.int .i64 0],[.slice none 0 0],rfl,rfl,cB _⟩
structure jU where
 Col:Int
 Desc:Bool
 deriving DecidableEq,Inhabited
def eQ:Rp jU:=nP (cx (rI .i64) rB) (fun x=>(x.Col,x.Desc))
def AG:mj eQ 0 (rI .i64) (fun x=>x.Col):=(fk di)
def Ke:mj eQ 1 rB (fun x=>x.Desc):=(aH di rfl)
structure aa where
 Op:Int
 A:Int
 B:Int
 Table:Int
 Kinds:(List Int)
 Left:Bool
 Cond:ai
 Keys:(List Int)
 Aggs:(List gQ)
 Items:(List ai)
 Order:(List jU)
 Limit:Int
 deriving DecidableEq,Inhabited
def ak:Rp aa:=nP (cx (rI .i64) (cx (rI .i64) (cx (rI .i64) (cx (rI .i64) (cx (gJ (rI .i64)) (cx rB (cx af (cx (gJ (rI .i64)) (cx (gJ dl) (cx (gJ af) (cx (gJ eQ) (rI .i64)))))))))))) (fun x=>(x.Op,x.A,x.B,x.Table,x.Kinds,x.Left,x.Cond,x.Keys,x.Aggs,x.Items,x.Order,x.Limit))
def fU:mj ak 0 (rI .i64) (fun x=>x.Op):=(fk di)
def lS:ij ak 0 (rI .i64) (fun x y=>{x with Op:=y}):=cS eC (fun _ _=>rfl)
def eG:mj ak 1 (rI .i64) (fun x=>x.A):=(fk (aH di rfl))
def nm:ij ak 1 (rI .i64) (fun x y=>{x with A:=y}):=cS (aC eC rfl) (fun _ _=>rfl)
def jk:mj ak 2 (rI .i64) (fun x=>x.B):=(fk (aH (aH di rfl) rfl))
def nl:ij ak 2 (rI .i64) (fun x y=>{x with B:=y}):=cS (aC (aC eC rfl) rfl) (fun _ _=>rfl)
def q8:mj ak 3 (rI .i64) (fun x=>x.Table):=(fk (aH (aH (aH di rfl) rfl) rfl))
def Ab:ij ak 3 (rI .i64) (fun x y=>{x with Table:=y}):=cS (aC (aC (aC eC rfl) rfl) rfl) (fun _ _=>rfl)
def kR:mj ak 4 (gJ (rI .i64)) (fun x=>x.Kinds):=(fk (aH (aH (aH (aH di rfl) rfl) rfl) rfl))
def qM:ij ak 4 (gJ (rI .i64)) (fun x y=>{x with Kinds:=y}):=cS (aC (aC (aC (aC eC rfl) rfl) rfl) rfl) (fun _ _=>rfl)
def q7:mj ak 5 rB (fun x=>x.Left):=(fk (aH (aH (aH (aH (aH di rfl) rfl) rfl) rfl) rfl))
def Aa:ij ak 5 rB (fun x y=>{x with Left:=y}):=cS (aC (aC (aC (aC (aC eC rfl) rfl) rfl) rfl) rfl) (fun _ _=>rfl)
def fT:mj ak 6 af (fun x=>x.Cond):=(fk (aH (aH (aH (aH (aH (aH di rfl) rfl) rfl) rfl) rfl) rfl))
def lR:ij ak 6 af (fun x y=>{x with Cond:=y}):=cS (aC (aC (aC (aC (aC (aC eC rfl) rfl) rfl) rfl) rfl) rfl) (fun _ _=>rfl)
def jR:mj ak 7 (gJ (rI .i64)) (fun x=>x.Keys):=(fk (aH (aH (aH (aH (aH (aH (aH di rfl) rfl) rfl) rfl) rfl) rfl) rfl))
def vX:ij ak 7 (gJ (rI .i64)) (fun x y=>{x with Keys:=y}):=cS (aC (aC (aC (aC (aC (aC (aC eC rfl) rfl) rfl) rfl) rfl) rfl) rfl) (fun _ _=>rfl)
def md:mj ak 8 (gJ dl) (fun x=>x.Aggs):=(fk (aH (aH (aH (aH (aH (aH (aH (aH di rfl) rfl) rfl) rfl) rfl) rfl) rfl) rfl))
def FR:ij ak 8 (gJ dl) (fun x y=>{x with Aggs:=y}):=cS (aC (aC (aC (aC (aC (aC (aC (aC eC rfl) rfl) rfl) rfl) rfl) rfl) rfl) rfl) (fun _ _=>rfl)
def gM:mj ak 9 (gJ af) (fun x=>x.Items):=(fk (aH (aH (aH (aH (aH (aH (aH (aH (aH di rfl) rfl) rfl) rfl) rfl) rfl) rfl) rfl) rfl))
def z8:ij ak 9 (gJ af) (fun x y=>{x with Items:=y}):=cS (aC (aC (aC (aC (aC (aC (aC (aC (aC eC rfl) rfl) rfl) rfl) rfl) rfl) rfl) rfl) rfl) (fun _ _=>rfl)
def jK:mj ak 10 (gJ eQ) (fun x=>x.Order):=(fk (aH (aH (aH (aH (aH (aH (aH (aH (aH (aH di rfl) rfl) rfl) rfl) rfl) rfl) rfl) rfl) rfl) rfl))
def yC:ij ak 10 (gJ eQ) (fun x y=>{x with Order:=y}):=cS (aC (aC (aC (aC (aC (aC (aC (aC (aC (aC eC rfl) rfl) rfl) rfl) rfl) rfl) rfl) rfl) rfl) rfl) (fun _ _=>rfl)
def pN:mj ak 11 (rI .i64) (fun x=>x.Limit):=(aH (aH (aH (aH (aH (aH (aH (aH (aH (aH (aH di rfl) rfl) rfl) rfl) rfl) rfl) rfl) rfl) rfl) rfl) rfl)
def D1:ij ak 11 (rI .i64) (fun x y=>{x with Limit:=y}):=cS (aC (aC (aC (aC (aC (aC (aC (aC (aC (aC (aC ac rfl) rfl) rfl) rfl) rfl) rfl) rfl) rfl) rfl) rfl) rfl) (fun _ _=>rfl)
def iA: ∀S,ak.rc S [.int .i64 0,.int .i64 0,.int .i64 0,.int .i64 0,.slice none 0 0,.bool false,.slice none 0 0,.slice none 0 0,.slice none 0 0,.slice none 0 0,.slice none 0 0,.int .i64 0] ((⟨(0:Int),(0:Int),(0:Int),(0:Int),[],false,(⟨[]⟩:ai),[],[],[],[],(0:Int)⟩:aa)):=fun _=>⟨[.int .i64 0],[.int .i64 0,.int .i64 0,.int .i64 0,.slice none 0 0,.bool false,.slice none 0 0,.slice none 0 0,.slice none 0 0,.slice none 0 0,.slice none 0 0,.int .i64 0],rfl,rfl,⟨[.int .i64 0],[.int .i64 0,.int .i64 0,.slice none 0 0,.bool false,.slice none 0 0,.slice none 0 0,.slice none 0 0,.slice none 0 0,.slice none 0 0,.int .i64 0],rfl,rfl,⟨[.int .i64 0],[.int .i64 0,.slice none 0 0,.bool false,.slice none 0 0,.slice none 0 0,.slice none 0 0,.slice none 0 0,.slice none 0 0,.int .i64 0],rfl,rfl,⟨[.int .i64 0],[.slice none 0 0,.bool false,.slice none 0 0,.slice none 0 0,.slice none 0 0,.slice none 0 0,.slice none 0 0,.int .i64 0],rfl,rfl,⟨[.slice none 0 0],[.bool false,.slice none 0 0,.slice none 0 0,.slice none 0 0,.slice none 0 0,.slice none 0 0,.int .i64 0],rfl,⟨none,0,rfl,dr _,mJ _,.inl rfl⟩,⟨[.bool false],[.slice none 0 0,.slice none 0 0,.slice none 0 0,.slice none 0 0,.slice none 0 0,.int .i64 0],rfl,rfl,⟨[.slice none 0 0],[.slice none 0 0,.slice none 0 0,.slice none 0 0,.slice none 0 0,.int .i64 0],rfl,cB _,⟨[.slice none 0 0],[.slice none 0 0,.slice none 0 0,.slice none 0 0,.int .i64 0],rfl,⟨none,0,rfl,dr _,mJ _,.inl rfl⟩,⟨[.slice none 0 0],[.slice none 0 0,.slice none 0 0,.int .i64 0],rfl,⟨none,0,rfl,dr _,mJ _,.inl rfl⟩,⟨[.slice none 0 0],[.slice none 0 0,.int .i64 0],rfl,⟨none,0,rfl,dr _,mJ _,.inl rfl⟩,⟨[.slice none 0 0],[.int .i64 0],rfl,⟨none,0,rfl,dr _,mJ _,.inl rfl⟩,rfl⟩⟩⟩⟩⟩⟩⟩⟩⟩⟩⟩
structure aw where
 Nodes:(List aa)
 deriving DecidableEq,Inhabited
def ay:Rp aw:=nP (gJ ak) (fun x=>(x.Nodes))
def eg:mj ay 0 (gJ ak) (fun x=>x.Nodes):=di
def FQ:ij ay 0 (gJ ak) (fun x y=>{x with Nodes:=y}):=cS ac (fun _ _=>rfl)
def d5: ∀S,ay.rc S [.slice none 0 0] ((⟨[]⟩:aw)):=fun _=>⟨none,0,rfl,dr _,mJ _,.inl rfl⟩
structure am where
 Logic:aw
 root:aa
 parts:(List am)
 deriving Inhabited
def Hc:RM 14 (fun r:Rp am=>nP (cx ay (cx ak (gJ r))) (fun x:am=>(x.Logic,x.root,x.parts))):=RM.map _ (HJ (RM.const ay) (HJ (RM.const ak) RM.sl))
def aq:Rp am:=JE Hc rfl
def s6:Rp am:=nP (cx ay (cx ak (gJ aq))) (fun x=>(x.Logic,x.root,x.parts))
def rA: ∀S cs x,aq.rc S cs x↔s6.rc S cs x:=JD Hc rfl
def qw:mj aq 0 ay (fun x=>x.Logic):=C6 rA (r' :=s6) (fk di)
def Id:ij aq 0 ay (fun x y=>{x with Logic:=y}):=zZ rA (r' :=s6) (cS eC (fun _ _=>rfl))
def dZ:mj aq 1 ak (fun x=>x.root):=C6 rA (r' :=s6) (fk (aH di rfl))
def Ic:ij aq 1 ak (fun x y=>{x with root:=y}):=zZ rA (r' :=s6) (cS (aC eC rfl) (fun _ _=>rfl))
def gT:mj aq 13 (gJ aq) (fun x=>x.parts):=C6 rA (r' :=s6) (aH (aH di rfl) rfl)
def Ib:ij aq 13 (gJ aq) (fun x y=>{x with parts:=y}):=zZ rA (r' :=s6) (cS (aC (aC ac rfl) rfl) (fun _ _=>rfl))
def eW: ∀S,aq.rc S [.slice none 0 0,.int .i64 0,.int .i64 0,.int .i64 0,.int .i64 0,.slice none 0 0,.bool false,.slice none 0 0,.slice none 0 0,.slice none 0 0,.slice none 0 0,.slice none 0 0,.int .i64 0,.slice none 0 0] ((⟨(⟨[]⟩:aw),(⟨(0:Int),(0:Int),(0:Int),(0:Int),[],false,(⟨[]⟩:ai),[],[],[],[],(0:Int)⟩:aa),[]⟩:am)):=fun _=>(rA _ _ _).2 (⟨[.slice none 0 0],[.int .i64 0,.int .i64 0,.int .i64 0,.int .i64 0,.slice none 0 0,.bool false,.slice none 0 0,.slice none 0 0,.slice none 0 0,.slice none 0 0,.slice none 0 0,.int .i64 0,.slice none 0 0],rfl,d5 _,⟨[.int .i64 0,.int .i64 0,.int .i64 0,.int .i64 0,.slice none 0 0,.bool false,.slice none 0 0,.slice none 0 0,.slice none 0 0,.slice none 0 0,.slice none 0 0,.int .i64 0],[.slice none 0 0],rfl,iA _,⟨none,0,rfl,dr _,mJ _,.inl rfl⟩⟩⟩)
structure au where
 Logic:aw
 kinds:(List (List Int))
 first:(List Int)
 deriving DecidableEq,Inhabited
def bc:Rp au:=nP (cx ay (cx (gJ (gJ (rI .i64))) (gJ (rI .i64)))) (fun x=>(x.Logic,x.kinds,x.first))
def tg:mj bc 0 ay (fun x=>x.Logic):=(fk di)
def CP:ij bc 0 ay (fun x y=>{x with Logic:=y}):=cS eC (fun _ _=>rfl)
def C8:mj bc 1 (gJ (gJ (rI .i64))) (fun x=>x.kinds):=(fk (aH di rfl))
def CO:ij bc 1 (gJ (gJ (rI .i64))) (fun x y=>{x with kinds:=y}):=cS (aC eC rfl) (fun _ _=>rfl)
def xf:mj bc 2 (gJ (rI .i64)) (fun x=>x.first):=(aH (aH di rfl) rfl)
def CN:ij bc 2 (gJ (rI .i64)) (fun x y=>{x with first:=y}):=cS (aC (aC ac rfl) rfl) (fun _ _=>rfl)
def Fx: ∀S,bc.rc S [.slice none 0 0,.slice none 0 0,.slice none 0 0] ((⟨(⟨[]⟩:aw),[],[]⟩:au)):=fun _=>⟨[.slice none 0 0],[.slice none 0 0,.slice none 0 0],rfl,d5 _,⟨[.slice none 0 0],[.slice none 0 0],rfl,⟨none,0,rfl,dr _,mJ _,.inl rfl⟩,⟨none,0,rfl,dr _,mJ _,.inl rfl⟩⟩⟩
structure HN where
 Nodes:Value
def dD:Rp HN:=nP rV (fun x=>(x.Nodes))
def iF:mj dD 0 rV (fun x=>x.Nodes):=di
def uq:ij dD 0 rV (fun x y=>{x with Nodes:=y}):=cS ac (fun _ _=>rfl)
def dY(y:ai)(v0:Value):HN:=⟨v0⟩
def oL: ∀S,dD.rc S [.slice none 0 0] (dY ((⟨[]⟩:ai)) (aL none 0 0)):=fun _=>⟨rfl,rfl⟩
structure Fk where
 Nodes:Value
def dK:Rp Fk:=nP rV (fun x=>(x.Nodes))
def jJ:mj dK 0 rV (fun x=>x.Nodes):=di
def CM:ij dK 0 rV (fun x y=>{x with Nodes:=y}):=cS ac (fun _ _=>rfl)
def ef(y:aw)(v0:Value):Fk:=⟨v0⟩
def sZ: ∀S,dK.rc S [.slice none 0 0] (ef ((⟨[]⟩:aw)) (aL none 0 0)):=fun _=>⟨rfl,rfl⟩
structure Fl where
 Op:Int
 A:Int
 B:Int
 Table:Int
 Kinds:(List Int)
 Left:Bool
 Cond:ai
 Keys:(List Int)
 Aggs:Value
 Items:(List ai)
 Order:(List jU)
 Limit:Int
def Ag:Rp Fl:=nP (cx (rI .i64) (cx (rI .i64) (cx (rI .i64) (cx (rI .i64) (cx (gJ (rI .i64)) (cx rB (cx af (cx (gJ (rI .i64)) (cx rV (cx (gJ af) (cx (gJ eQ) (rI .i64)))))))))))) (fun x=>(x.Op,x.A,x.B,x.Table,x.Kinds,x.Left,x.Cond,x.Keys,x.Aggs,x.Items,x.Order,x.Limit))
def At(y:aa)(v8:Value):Fl:=⟨y.Op,y.A,y.B,y.Table,y.Kinds,y.Left,y.Cond,y.Keys,v8,y.Items,y.Order,y.Limit⟩
structure A4 where
 Op:Int
 A:Int
 B:Int
 Table:Int
 Kinds:(List Int)
 Left:Bool
 Cond:ai
 Keys:(List Int)
 Aggs:Value
 Items:Value
 Order:(List jU)
 Limit:Int
def dC:Rp A4:=nP (cx (rI .i64) (cx (rI .i64) (cx (rI .i64) (cx (rI .i64) (cx (gJ (rI .i64)) (cx rB (cx af (cx (gJ (rI .i64)) (cx rV (cx rV (cx (gJ eQ) (rI .i64)))))))))))) (fun x=>(x.Op,x.A,x.B,x.Table,x.Kinds,x.Left,x.Cond,x.Keys,x.Aggs,x.Items,x.Order,x.Limit))
def AC:mj dC 6 af (fun x=>x.Cond):=(fk (aH (aH (aH (aH (aH (aH di rfl) rfl) rfl) rfl) rfl) rfl))
def z6:ij dC 6 af (fun x y=>{x with Cond:=y}):=cS (aC (aC (aC (aC (aC (aC eC rfl) rfl) rfl) rfl) rfl) rfl) (fun _ _=>rfl)
def mb:mj dC 8 rV (fun x=>x.Aggs):=(fk (aH (aH (aH (aH (aH (aH (aH (aH di rfl) rfl) rfl) rfl) rfl) rfl) rfl) rfl))
def ma:mj dC 9 rV (fun x=>x.Items):=(fk (aH (aH (aH (aH (aH (aH (aH (aH (aH di rfl) rfl) rfl) rfl) rfl) rfl) rfl) rfl) rfl))
def y6:ij dC 10 (gJ eQ) (fun x y=>{x with Order:=y}):=cS (aC (aC (aC (aC (aC (aC (aC (aC (aC (aC eC rfl) rfl) rfl) rfl) rfl) rfl) rfl) rfl) rfl) rfl) (fun _ _=>rfl)
def fJ(y:aa)(v8:Value)(v9:Value):A4:=⟨y.Op,y.A,y.B,y.Table,y.Kinds,y.Left,y.Cond,y.Keys,v8,v9,y.Order,y.Limit⟩
def CD: ∀S,dC.rc S [.int .i64 0,.int .i64 0,.int .i64 0,.int .i64 0,.slice none 0 0,.bool false,.slice none 0 0,.slice none 0 0,.slice none 0 0,.slice none 0 0,.slice none 0 0,.int .i64 0] (fJ ((⟨(0:Int),(0:Int),(0:Int),(0:Int),[],false,(⟨[]⟩:ai),[],[],[],[],(0:Int)⟩:aa)) (aL none 0 0) (aL none 0 0)):=fun _=>⟨[.int .i64 0],[.int .i64 0,.int .i64 0,.int .i64 0,.slice none 0 0,.bool false,.slice none 0 0,.slice none 0 0,.slice none 0 0,.slice none 0 0,.slice none 0 0,.int .i64 0],rfl,rfl,⟨[.int .i64 0],[.int .i64 0,.int .i64 0,.slice none 0 0,.bool false,.slice none 0 0,.slice none 0 0,.slice none 0 0,.slice none 0 0,.slice none 0 0,.int .i64 0],rfl,rfl,⟨[.int .i64 0],[.int .i64 0,.slice none 0 0,.bool false,.slice none 0 0,.slice none 0 0,.slice none 0 0,.slice none 0 0,.slice none 0 0,.int .i64 0],rfl,rfl,⟨[.int .i64 0],[.slice none 0 0,.bool false,.slice none 0 0,.slice none 0 0,.slice none 0 0,.slice none 0 0,.slice none 0 0,.int .i64 0],rfl,rfl,⟨[.slice none 0 0],[.bool false,.slice none 0 0,.slice none 0 0,.slice none 0 0,.slice none 0 0,.slice none 0 0,.int .i64 0],rfl,⟨none,0,rfl,dr _,mJ _,.inl rfl⟩,⟨[.bool false],[.slice none 0 0,.slice none 0 0,.slice none 0 0,.slice none 0 0,.slice none 0 0,.int .i64 0],rfl,rfl,⟨[.slice none 0 0],[.slice none 0 0,.slice none 0 0,.slice none 0 0,.slice none 0 0,.int .i64 0],rfl,cB _,⟨[.slice none 0 0],[.slice none 0 0,.slice none 0 0,.slice none 0 0,.int .i64 0],rfl,⟨none,0,rfl,dr _,mJ _,.inl rfl⟩,⟨[.slice none 0 0],[.slice none 0 0,.slice none 0 0,.int .i64 0],rfl,⟨rfl,rfl⟩,⟨[.slice none 0 0],[.slice none 0 0,.int .i64 0],rfl,⟨rfl,rfl⟩,⟨[.slice none 0 0],[.int .i64 0],rfl,⟨none,0,rfl,dr _,mJ _,.inl rfl⟩,rfl⟩⟩⟩⟩⟩⟩⟩⟩⟩⟩⟩
structure HM where
 Logic:aw
 root:aa
 parts:Value
def j6:Rp HM:=nP (cx ay (cx ak rV)) (fun x=>(x.Logic,x.root,x.parts))
def D0:ij j6 0 ay (fun x y=>{x with Logic:=y}):=cS eC (fun _ _=>rfl)
def yN:mj j6 1 ak (fun x=>x.root):=(fk (aH di rfl))
def DZ:ij j6 1 ak (fun x y=>{x with root:=y}):=cS (aC eC rfl) (fun _ _=>rfl)
def ET:mj j6 13 rV (fun x=>x.parts):=(aH (aH di rfl) rfl)
def oX(y:am)(v2:Value):HM:=⟨y.Logic,y.root,v2⟩
def HX: ∀S,j6.rc S [.slice none 0 0,.int .i64 0,.int .i64 0,.int .i64 0,.int .i64 0,.slice none 0 0,.bool false,.slice none 0 0,.slice none 0 0,.slice none 0 0,.slice none 0 0,.slice none 0 0,.int .i64 0,.slice none 0 0] (oX ((⟨(⟨[]⟩:aw),(⟨(0:Int),(0:Int),(0:Int),(0:Int),[],false,(⟨[]⟩:ai),[],[],[],[],(0:Int)⟩:aa),[]⟩:am)) (aL none 0 0)):=fun _=>⟨[.slice none 0 0],[.int .i64 0,.int .i64 0,.int .i64 0,.int .i64 0,.slice none 0 0,.bool false,.slice none 0 0,.slice none 0 0,.slice none 0 0,.slice none 0 0,.slice none 0 0,.int .i64 0,.slice none 0 0],rfl,d5 _,⟨[.int .i64 0,.int .i64 0,.int .i64 0,.int .i64 0,.slice none 0 0,.bool false,.slice none 0 0,.slice none 0 0,.slice none 0 0,.slice none 0 0,.slice none 0 0,.int .i64 0],[.slice none 0 0],rfl,iA _,⟨rfl,rfl⟩⟩⟩
def ox{S:SH}{cs:List Value}{y:ai}{v0:Value}{xs0:(List aj)}(k0:(gJ ap).rc S [v0] xs0)(h:dD.rc S cs (dY y v0)):af.rc S cs ((⟨xs0⟩:ai)):=by
 have h0:=h
 exact(by rw [h0.1];exact k0)
def nf{S:SH}{cs:List Value}{y:aw}{v0:Value}{xs0:(List aa)}(k0:(gJ ak).rc S [v0] xs0)(h:dK.rc S cs (ef y v0)):ay.rc S cs ((⟨xs0⟩:aw)):=by
 have h0:=h
 exact(by rw [h0.1];exact k0)
def rK{S:SH}{cs:List Value}{y:aa}{v8:Value}{v9:Value}{xs8:(List gQ)}(k8:(gJ dl).rc S [v8] xs8){xs9:(List ai)}(k9:(gJ af).rc S [v9] xs9)(h:dC.rc S cs (fJ y v8 v9)):ak.rc S cs ((⟨y.Op,y.A,y.B,y.Table,y.Kinds,y.Left,y.Cond,y.Keys,xs8,xs9,y.Order,y.Limit⟩:aa)):=by
 obtain⟨a0,b0,e0,h0,a1,b1,e1,Y,a2,b2,e2,J,a3,b3,e3,Z,a4,b4,e4,h4,a5,b5,e5,h5,a6,b6,e6,h6,a7,b7,e7,h7,a8,b8,e8,h8,a9,b9,e9,h9,a10,b10,e10,h10,h11⟩:=h
 exact⟨a0,b0,e0,h0,a1,b1,e1,Y,a2,b2,e2,J,a3,b3,e3,Z,a4,b4,e4,h4,a5,b5,e5,h5,a6,b6,e6,h6,a7,b7,e7,h7,a8,b8,e8,(by rw [h8.1];exact k8),a9,b9,e9,(by rw [h9.1];exact k9),a10,b10,e10,h10,h11⟩
def KE(t:am):t=⟨t.Logic,t.root,t.parts⟩:=by cases t;rfl
def AW{S:SH}{cs:List Value}{y h1:am}{v2:Value}{xs2:(List am)}(k2:(gJ aq).rc S [v2] xs2)(h:j6.rc S cs (oX y v2))(hY:h1=(⟨y.Logic,y.root,xs2⟩:am):=by first|rfl|exact KE _):aq.rc S cs h1:=by
 subst hY
 obtain⟨a0,b0,e0,h0,a1,b1,e1,Y,J⟩:=h
 exact(rA _ _ _).2 (⟨a0,b0,e0,h0,a1,b1,e1,Y,(by rw [J.1];exact k2)⟩)
def p6(y:ai)(u:Value)(v:Value):oz dD dD 0 rV (dY y u) v (dY y v):=wK (jb rfl) rfl
def lP(y:aw)(u:Value)(v:Value):oz dK dK 0 rV (ef y u) v (ef y v):=wK (jb rfl) rfl
def qK(y:aa)(v:Value):oz ak Ag 8 rV (y) v (At y v):=wK (iX (iX (iX (iX (iX (iX (iX (iX (Hb (jb rfl) rfl) rfl) rfl) rfl) rfl) rfl) rfl) rfl) rfl) rfl
def nU(y:aa)(v8:Value)(v:Value):oz Ag dC 9 rV (At y v8) v (fJ y v8 v):=wK (iX (iX (iX (iX (iX (iX (iX (iX (iX (Hb (jb rfl) rfl) rfl) rfl) rfl) rfl) rfl) rfl) rfl) rfl) rfl) rfl
def vl(y:am)(u:Value)(v:Value):oz j6 j6 13 rV (oX y u) v (oX y v):=wK (iX (iX (jb rfl) rfl) rfl) rfl
def dL(b:Nat)(x:au)(i:OI):List OE:=[bx (rH bc [(1,aL (i.h 0).1 (i.h 0).2 x.kinds.length),(2,aL (i.h 1).1 (i.h 1).2 x.first.length)]) 102 b x,hX (gJ (rI .i64)) 23 (i.h 0).1 (i.h 0).2 x.kinds,hX (rI .i64) 3 (i.h 1).1 (i.h 1).2 x.first]
abbrev Jy:Rp (List (List ai)):=nQ (gJ af) 3
def fF:Rp (List Value):=nQ rV 3
def iu(_y:(List (List ai)))(v0 v1 v2:Value):List Value:=[v0,v1,v2]
def AF:mj fF 0 rV (fun x=>(x[0]?).getD undef):=AB (by decide)
def AE:mj fF 1 rV (fun x=>(x[1]?).getD undef):=AB (by decide)
def AD:mj fF 2 rV (fun x=>(x[2]?).getD undef):=AB (by decide)
def CE: ∀S,fF.rc S [.slice none 0 0,.slice none 0 0,.slice none 0 0] (iu (List.replicate 3 []) (aL none 0 0) (aL none 0 0) (aL none 0 0)):=fun _=>⟨rfl,⟨[_],_,rfl,⟨rfl,rfl⟩,⟨[_],_,rfl,⟨rfl,rfl⟩,⟨[_],_,rfl,⟨rfl,rfl⟩,rfl⟩⟩⟩⟩
def xk{S:SH}{cs:List Value}{y:(List (List ai))}{v0:Value}{v1:Value}{v2:Value}{xs0:(List ai)}(k0:(gJ af).rc S [v0] xs0){xs1:(List ai)}(k1:(gJ af).rc S [v1] xs1){xs2:(List ai)}(k2:(gJ af).rc S [v2] xs2)(h:fF.rc S cs (iu y v0 v1 v2)):Jy.rc S cs [xs0,xs1,xs2]:=Pw h ⟨k0,k1,k2,trivial⟩
def qJ(y:(List (List ai)))(v1:Value)(v2:Value)(u:Value)(v:Value):oz fF fF 0 rV (iu y u v1 v2) v (iu y v v1 v2):=zY (q:=rV) (n:=3) (i:=0) (by decide)
def qI(y:(List (List ai)))(v0:Value)(v2:Value)(u:Value)(v:Value):oz fF fF 1 rV (iu y v0 u v2) v (iu y v0 v v2):=zY (q:=rV) (n:=3) (i:=1) (by decide)
def qH(y:(List (List ai)))(v0:Value)(v1:Value)(u:Value)(v:Value):oz fF fF 2 rV (iu y v0 v1 u) v (iu y v0 v1 v):=zY (q:=rV) (n:=3) (i:=2) (by decide)

end Go.Proofs.YtbmmihfagmchaaaGreat

