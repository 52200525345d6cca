/- db of this claim: D. -/
import Derived.Test.YtbmmihfagmchaaaGreatRaV3
import Derived.Test.YtbmmihfagmchaaaGreatRaV4
set_option linter.all false
namespace Go.Proofs.YtbmmihfagmchaaaGreat
open Go

structure bT where
 Kind:Int
 N:Int
 U:Int
 S:BH
 deriving DecidableEq,Inhabited
def cH:Rp bT:=lO (cC (rI .i64) (cC (rI .i64) (cC (rI .u64) rS))) (fun x=>(x.Kind,x.N,x.U,x.S))
def kj:jE cH 0 (rI .i64) (fun x=>x.Kind):=(dR cN)
def mO:ff cH 0 (rI .i64) (fun x y=>{x with Kind:=y}):=cG dy (fun _ _=>rfl)
def lr:jE cH 1 (rI .i64) (fun x=>x.N):=(dR (aJ cN rfl))
def oC:ff cH 1 (rI .i64) (fun x y=>{x with N:=y}):=cG (aK dy rfl) (fun _ _=>rfl)
def oQ:jE cH 2 (rI .u64) (fun x=>x.U):=(dR (aJ (aJ cN rfl) rfl))
def zq:ff cH 2 (rI .u64) (fun x y=>{x with U:=y}):=cG (aK (aK dy rfl) rfl) (fun _ _=>rfl)
def jm:jE cH 3 rS (fun x=>x.S):=(aJ (aJ (aJ cN rfl) rfl) rfl)
def ui:ff cH 3 rS (fun x y=>{x with S:=y}):=cG (aK (aK (aK aa rfl) rfl) rfl) (fun _ _=>rfl)
def gQ: ∀S,cH.rc S [.int .i64 0,.int .i64 0,.int .u64 0,.string ⟨#[]⟩] ((⟨(0:Int),(0:Int),(0:Int),[]⟩:bT)):=fun _=>⟨[.int .i64 0],[.int .i64 0,.int .u64 0,.string ⟨#[]⟩],rfl,rfl,⟨[.int .i64 0],[.int .u64 0,.string ⟨#[]⟩],rfl,rfl,⟨[.int .u64 0],[.string ⟨#[]⟩],rfl,rfl,rfl⟩⟩⟩
structure aj where
 Tag:Int
 L:Int
 R:Int
 Col:Int
 Value:bT
 deriving DecidableEq,Inhabited
def ai:Rp aj:=lO (cC (rI .i64) (cC (rI .i64) (cC (rI .i64) (cC (rI .i64) cH)))) (fun x=>(x.Tag,x.L,x.R,x.Col,x.Value))
def cJ:jE ai 0 (rI .i64) (fun x=>x.Tag):=(dR cN)
def jg:ff ai 0 (rI .i64) (fun x y=>{x with Tag:=y}):=cG dy (fun _ _=>rfl)
def eb:jE ai 1 (rI .i64) (fun x=>x.L):=(dR (aJ cN rfl))
def kf:ff ai 1 (rI .i64) (fun x y=>{x with L:=y}):=cG (aK dy rfl) (fun _ _=>rfl)
def ea:jE ai 2 (rI .i64) (fun x=>x.R):=(dR (aJ (aJ cN rfl) rfl))
def ke:ff ai 2 (rI .i64) (fun x y=>{x with R:=y}):=cG (aK (aK dy rfl) rfl) (fun _ _=>rfl)
def dk:jE ai 3 (rI .i64) (fun x=>x.Col):=(dR (aJ (aJ (aJ cN rfl) rfl) rfl))
def oE:ff ai 3 (rI .i64) (fun x y=>{x with Col:=y}):=cG (aK (aK (aK dy rfl) rfl) rfl) (fun _ _=>rfl)
def ft:jE ai 4 cH (fun x=>x.Value):=(aJ (aJ (aJ (aJ cN rfl) rfl) rfl) rfl)
def uo:ff ai 4 cH (fun x y=>{x with Value:=y}):=cG (aK (aK (aK (aK aa rfl) rfl) rfl) rfl) (fun _ _=>rfl)
def dS: ∀S,ai.rc S [.int .i64 0,.int .i64 0,.int .i64 0,.int .i64 0,.int .i64 0,.int .i64 0,.int .u64 0,.string ⟨#[]⟩] ((⟨(0:Int),(0:Int),(0:Int),(0:Int),(⟨(0:Int),(0:Int),(0:Int),[]⟩:bT)⟩:aj)):=fun _=>⟨[.int .i64 0],[.int .i64 0,.int .i64 0,.int .i64 0,.int .i64 0,.int .i64 0,.int .u64 0,.string ⟨#[]⟩],rfl,rfl,⟨[.int .i64 0],[.int .i64 0,.int .i64 0,.int .i64 0,.int .i64 0,.int .u64 0,.string ⟨#[]⟩],rfl,rfl,⟨[.int .i64 0],[.int .i64 0,.int .i64 0,.int .i64 0,.int .u64 0,.string ⟨#[]⟩],rfl,rfl,⟨[.int .i64 0],[.int .i64 0,.int .i64 0,.int .u64 0,.string ⟨#[]⟩],rfl,rfl,gQ _⟩⟩⟩⟩
structure af where
 Nodes:(List aj)
 deriving DecidableEq,Inhabited
def hf:Rp af:=lO (eY ai) (fun x=>(x.Nodes))
def bL:jE hf 0 (eY ai) (fun x=>x.Nodes):=cN
def mI:ff hf 0 (eY ai) (fun x y=>{x with Nodes:=y}):=cG aa (fun _ _=>rfl)
def bU: ∀S,hf.rc S [.slice none 0 0] ((⟨[]⟩:af)):=fun _=>⟨none,0,rfl,iZ _,ky _,.inl rfl⟩
structure sI where
 Tag:Int
 Arg:af
 deriving DecidableEq,Inhabited
def fm:Rp sI:=lO (cC (rI .i64) hf) (fun x=>(x.Tag,x.Arg))
def yJ:jE fm 0 (rI .i64) (fun x=>x.Tag):=(dR cN)
def rE:jE fm 1 hf (fun x=>x.Arg):=(aJ cN rfl)
def Cl:ff fm 1 hf (fun x y=>{x with Arg:=y}):=cG (aK aa rfl) (fun _ _=>rfl)
def Fs: ∀S,fm.rc S [.int .i64 0,.slice none 0 0] ((⟨(0:Int),(⟨[]⟩:af)⟩:sI)):=fun _=>⟨[.int .i64 0],[.slice none 0 0],rfl,rfl,bU _⟩
structure ne where
 Col:Int
 Desc:Bool
 deriving DecidableEq,Inhabited
def gT:Rp ne:=lO (cC (rI .i64) rB) (fun x=>(x.Col,x.Desc))
def yI:jE gT 0 (rI .i64) (fun x=>x.Col):=(dR cN)
structure an where
 Op:Int
 A:Int
 B:Int
 Table:Int
 Kinds:(List Int)
 Left:Bool
 Cond:af
 Keys:(List Int)
 Aggs:(List sI)
 Items:(List af)
 Order:(List ne)
 Limit:Int
 deriving DecidableEq,Inhabited
def ap:Rp an:=lO (cC (rI .i64) (cC (rI .i64) (cC (rI .i64) (cC (rI .i64) (cC (eY (rI .i64)) (cC rB (cC hf (cC (eY (rI .i64)) (cC (eY fm) (cC (eY hf) (cC (eY gT) (rI .i64)))))))))))) (fun x=>(x.Op,x.A,x.B,x.Table,x.Kinds,x.Left,x.Cond,x.Keys,x.Aggs,x.Items,x.Order,x.Limit))
def er:jE ap 0 (rI .i64) (fun x=>x.Op):=(dR cN)
def jf:ff ap 0 (rI .i64) (fun x y=>{x with Op:=y}):=cG dy (fun _ _=>rfl)
def dI:jE ap 1 (rI .i64) (fun x=>x.A):=(dR (aJ cN rfl))
def kd:ff ap 1 (rI .i64) (fun x y=>{x with A:=y}):=cG (aK dy rfl) (fun _ _=>rfl)
def io:jE ap 2 (rI .i64) (fun x=>x.B):=(dR (aJ (aJ cN rfl) rfl))
def kc:ff ap 2 (rI .i64) (fun x y=>{x with B:=y}):=cG (aK (aK dy rfl) rfl) (fun _ _=>rfl)
def qR:jE ap 3 (rI .i64) (fun x=>x.Table):=(dR (aJ (aJ (aJ cN rfl) rfl) rfl))
def um:ff ap 3 (rI .i64) (fun x y=>{x with Table:=y}):=cG (aK (aK (aK dy rfl) rfl) rfl) (fun _ _=>rfl)
def lu:jE ap 4 (eY (rI .i64)) (fun x=>x.Kinds):=(dR (aJ (aJ (aJ (aJ cN rfl) rfl) rfl) rfl))
def oD:ff ap 4 (eY (rI .i64)) (fun x y=>{x with Kinds:=y}):=cG (aK (aK (aK (aK dy rfl) rfl) rfl) rfl) (fun _ _=>rfl)
def qQ:jE ap 5 rB (fun x=>x.Left):=(dR (aJ (aJ (aJ (aJ (aJ cN rfl) rfl) rfl) rfl) rfl))
def ul:ff ap 5 rB (fun x y=>{x with Left:=y}):=cG (aK (aK (aK (aK (aK dy rfl) rfl) rfl) rfl) rfl) (fun _ _=>rfl)
def eq:jE ap 6 hf (fun x=>x.Cond):=(dR (aJ (aJ (aJ (aJ (aJ (aJ cN rfl) rfl) rfl) rfl) rfl) rfl))
def je:ff ap 6 hf (fun x y=>{x with Cond:=y}):=cG (aK (aK (aK (aK (aK (aK dy rfl) rfl) rfl) rfl) rfl) rfl) (fun _ _=>rfl)
def kl:jE ap 7 (eY (rI .i64)) (fun x=>x.Keys):=(dR (aJ (aJ (aJ (aJ (aJ (aJ (aJ cN rfl) rfl) rfl) rfl) rfl) rfl) rfl))
def uk:ff ap 7 (eY (rI .i64)) (fun x y=>{x with Keys:=y}):=cG (aK (aK (aK (aK (aK (aK (aK dy rfl) rfl) rfl) rfl) rfl) rfl) rfl) (fun _ _=>rfl)
def m7:jE ap 8 (eY fm) (fun x=>x.Aggs):=(dR (aJ (aJ (aJ (aJ (aJ (aJ (aJ (aJ cN rfl) rfl) rfl) rfl) rfl) rfl) rfl) rfl))
def zt:ff ap 8 (eY fm) (fun x y=>{x with Aggs:=y}):=cG (aK (aK (aK (aK (aK (aK (aK (aK dy rfl) rfl) rfl) rfl) rfl) rfl) rfl) rfl) (fun _ _=>rfl)
def gF:jE ap 9 (eY hf) (fun x=>x.Items):=(dR (aJ (aJ (aJ (aJ (aJ (aJ (aJ (aJ (aJ cN rfl) rfl) rfl) rfl) rfl) rfl) rfl) rfl) rfl))
def uj:ff ap 9 (eY hf) (fun x y=>{x with Items:=y}):=cG (aK (aK (aK (aK (aK (aK (aK (aK (aK dy rfl) rfl) rfl) rfl) rfl) rfl) rfl) rfl) rfl) (fun _ _=>rfl)
def nJ:jE ap 10 (eY gT) (fun x=>x.Order):=(dR (aJ (aJ (aJ (aJ (aJ (aJ (aJ (aJ (aJ (aJ cN rfl) rfl) rfl) rfl) rfl) rfl) rfl) rfl) rfl) rfl))
def sR:ff ap 10 (eY gT) (fun x y=>{x with Order:=y}):=cG (aK (aK (aK (aK (aK (aK (aK (aK (aK (aK dy rfl) rfl) rfl) rfl) rfl) rfl) rfl) rfl) rfl) rfl) (fun _ _=>rfl)
def pJ:jE ap 11 (rI .i64) (fun x=>x.Limit):=(aJ (aJ (aJ (aJ (aJ (aJ (aJ (aJ (aJ (aJ (aJ cN rfl) rfl) rfl) rfl) rfl) rfl) rfl) rfl) rfl) rfl) rfl)
def x8:ff ap 11 (rI .i64) (fun x y=>{x with Limit:=y}):=cG (aK (aK (aK (aK (aK (aK (aK (aK (aK (aK (aK aa rfl) rfl) rfl) rfl) rfl) rfl) rfl) rfl) rfl) rfl) rfl) (fun _ _=>rfl)
def fP: ∀S,ap.rc S [.int .i64 0,.int .i64 0,.int .i64 0,.int .i64 0,.slice none 0 0,.bool false,.slice none 0 0,.slice none 0 0,.slice none 0 0,.slice none 0 0,.slice none 0 0,.int .i64 0] ((⟨(0:Int),(0:Int),(0:Int),(0:Int),[],false,(⟨[]⟩:af),[],[],[],[],(0:Int)⟩:an)):=fun _=>⟨[.int .i64 0],[.int .i64 0,.int .i64 0,.int .i64 0,.slice none 0 0,.bool false,.slice none 0 0,.slice none 0 0,.slice none 0 0,.slice none 0 0,.slice none 0 0,.int .i64 0],rfl,rfl,⟨[.int .i64 0],[.int .i64 0,.int .i64 0,.slice none 0 0,.bool false,.slice none 0 0,.slice none 0 0,.slice none 0 0,.slice none 0 0,.slice none 0 0,.int .i64 0],rfl,rfl,⟨[.int .i64 0],[.int .i64 0,.slice none 0 0,.bool false,.slice none 0 0,.slice none 0 0,.slice none 0 0,.slice none 0 0,.slice none 0 0,.int .i64 0],rfl,rfl,⟨[.int .i64 0],[.slice none 0 0,.bool false,.slice none 0 0,.slice none 0 0,.slice none 0 0,.slice none 0 0,.slice none 0 0,.int .i64 0],rfl,rfl,⟨[.slice none 0 0],[.bool false,.slice none 0 0,.slice none 0 0,.slice none 0 0,.slice none 0 0,.slice none 0 0,.int .i64 0],rfl,⟨none,0,rfl,iZ _,ky _,.inl rfl⟩,⟨[.bool false],[.slice none 0 0,.slice none 0 0,.slice none 0 0,.slice none 0 0,.slice none 0 0,.int .i64 0],rfl,rfl,⟨[.slice none 0 0],[.slice none 0 0,.slice none 0 0,.slice none 0 0,.slice none 0 0,.int .i64 0],rfl,bU _,⟨[.slice none 0 0],[.slice none 0 0,.slice none 0 0,.slice none 0 0,.int .i64 0],rfl,⟨none,0,rfl,iZ _,ky _,.inl rfl⟩,⟨[.slice none 0 0],[.slice none 0 0,.slice none 0 0,.int .i64 0],rfl,⟨none,0,rfl,iZ _,ky _,.inl rfl⟩,⟨[.slice none 0 0],[.slice none 0 0,.int .i64 0],rfl,⟨none,0,rfl,iZ _,ky _,.inl rfl⟩,⟨[.slice none 0 0],[.int .i64 0],rfl,⟨none,0,rfl,iZ _,ky _,.inl rfl⟩,rfl⟩⟩⟩⟩⟩⟩⟩⟩⟩⟩⟩
structure bB where
 Nodes:(List an)
 deriving DecidableEq,Inhabited
def aE:Rp bB:=lO (eY ap) (fun x=>(x.Nodes))
def dT:jE aE 0 (eY ap) (fun x=>x.Nodes):=cN
def zr:ff aE 0 (eY ap) (fun x y=>{x with Nodes:=y}):=cG aa (fun _ _=>rfl)
def dF: ∀S,aE.rc S [.slice none 0 0] ((⟨[]⟩:bB)):=fun _=>⟨none,0,rfl,iZ _,ky _,.inl rfl⟩
structure ay where
 Logic:bB
 root:an
 parts:(List ay)
 deriving Inhabited
def As:RM 14 (fun r:Rp ay=>lO (cC aE (cC ap (eY r))) (fun x:ay=>(x.Logic,x.root,x.parts))):=RM.map _ (AL (RM.const aE) (AL (RM.const ap) RM.sl))
def al:Rp ay:=Cs As rfl
def oG:Rp ay:=lO (cC aE (cC ap (eY al))) (fun x=>(x.Logic,x.root,x.parts))
def nF: ∀S cs x,al.rc S cs x↔oG.rc S cs x:=Cr As rfl
def mJ:jE al 0 aE (fun x=>x.Logic):=wW nF (r' :=oG) (dR cN)
def Bl:ff al 0 aE (fun x y=>{x with Logic:=y}):=uh nF (r' :=oG) (cG dy (fun _ _=>rfl))
def c9:jE al 1 ap (fun x=>x.root):=wW nF (r' :=oG) (dR (aJ cN rfl))
def Bk:ff al 1 ap (fun x y=>{x with root:=y}):=uh nF (r' :=oG) (cG (aK dy rfl) (fun _ _=>rfl))
def eH:jE al 13 (eY al) (fun x=>x.parts):=wW nF (r' :=oG) (aJ (aJ cN rfl) rfl)
def Bj:ff al 13 (eY al) (fun x y=>{x with parts:=y}):=uh nF (r' :=oG) (cG (aK (aK aa rfl) rfl) (fun _ _=>rfl))
def dn: ∀S,al.rc S [.slice none 0 0,.int .i64 0,.int .i64 0,.int .i64 0,.int .i64 0,.slice none 0 0,.bool false,.slice none 0 0,.slice none 0 0,.slice none 0 0,.slice none 0 0,.slice none 0 0,.int .i64 0,.slice none 0 0] ((⟨(⟨[]⟩:bB),(⟨(0:Int),(0:Int),(0:Int),(0:Int),[],false,(⟨[]⟩:af),[],[],[],[],(0:Int)⟩:an),[]⟩:ay)):=fun _=>(nF _ _ _).2 (⟨[.slice none 0 0],[.int .i64 0,.int .i64 0,.int .i64 0,.int .i64 0,.slice none 0 0,.bool false,.slice none 0 0,.slice none 0 0,.slice none 0 0,.slice none 0 0,.slice none 0 0,.int .i64 0,.slice none 0 0],rfl,dF _,⟨[.int .i64 0,.int .i64 0,.int .i64 0,.int .i64 0,.slice none 0 0,.bool false,.slice none 0 0,.slice none 0 0,.slice none 0 0,.slice none 0 0,.slice none 0 0,.int .i64 0],[.slice none 0 0],rfl,fP _,⟨none,0,rfl,iZ _,ky _,.inl rfl⟩⟩⟩)
structure aw where
 Logic:bB
 kinds:(List (List Int))
 first:(List Int)
 deriving DecidableEq,Inhabited
def aZ:Rp aw:=lO (cC aE (cC (eY (eY (rI .i64))) (eY (rI .i64)))) (fun x=>(x.Logic,x.kinds,x.first))
def oP:jE aZ 0 aE (fun x=>x.Logic):=(dR cN)
def wI:ff aZ 0 aE (fun x y=>{x with Logic:=y}):=cG dy (fun _ _=>rfl)
def wY:jE aZ 1 (eY (eY (rI .i64))) (fun x=>x.kinds):=(dR (aJ cN rfl))
def wH:ff aZ 1 (eY (eY (rI .i64))) (fun x y=>{x with kinds:=y}):=cG (aK dy rfl) (fun _ _=>rfl)
def rD:jE aZ 2 (eY (rI .i64)) (fun x=>x.first):=(aJ (aJ cN rfl) rfl)
def wG:ff aZ 2 (eY (rI .i64)) (fun x y=>{x with first:=y}):=cG (aK (aK aa rfl) rfl) (fun _ _=>rfl)
def zc: ∀S,aZ.rc S [.slice none 0 0,.slice none 0 0,.slice none 0 0] ((⟨(⟨[]⟩:bB),[],[]⟩:aw)):=fun _=>⟨[.slice none 0 0],[.slice none 0 0,.slice none 0 0],rfl,dF _,⟨[.slice none 0 0],[.slice none 0 0],rfl,⟨none,0,rfl,iZ _,ky _,.inl rfl⟩,⟨none,0,rfl,iZ _,ky _,.inl rfl⟩⟩⟩
structure AN where
 Nodes:Value
def bW:Rp AN:=lO rV (fun x=>(x.Nodes))
def dV:jE bW 0 rV (fun x=>x.Nodes):=cN
def np:ff bW 0 rV (fun x y=>{x with Nodes:=y}):=cG aa (fun _ _=>rfl)
def cc(y:af)(v0:Value):AN:=⟨v0⟩
def iz: ∀S,bW.rc S [.slice none 0 0] (cc ((⟨[]⟩:af)) (aM none 0 0)):=fun _=>⟨rfl,rfl⟩
structure yV where
 Nodes:Value
def gC:Rp yV:=lO rV (fun x=>(x.Nodes))
def jy:jE gC 0 rV (fun x=>x.Nodes):=cN
def ib(y:bB)(v0:Value):yV:=⟨v0⟩
def tR: ∀S,gC.rc S [.slice none 0 0] (ib ((⟨[]⟩:bB)) (aM none 0 0)):=fun _=>⟨rfl,rfl⟩
structure yW where
 Op:Int
 A:Int
 B:Int
 Table:Int
 Kinds:(List Int)
 Left:Bool
 Cond:af
 Keys:(List Int)
 Aggs:Value
 Items:(List af)
 Order:(List ne)
 Limit:Int
def ut:Rp yW:=lO (cC (rI .i64) (cC (rI .i64) (cC (rI .i64) (cC (rI .i64) (cC (eY (rI .i64)) (cC rB (cC hf (cC (eY (rI .i64)) (cC rV (cC (eY hf) (cC (eY gT) (rI .i64)))))))))))) (fun x=>(x.Op,x.A,x.B,x.Table,x.Kinds,x.Left,x.Cond,x.Keys,x.Aggs,x.Items,x.Order,x.Limit))
def uB(y:an)(v8:Value):yW:=⟨y.Op,y.A,y.B,y.Table,y.Kinds,y.Left,y.Cond,y.Keys,v8,y.Items,y.Order,y.Limit⟩
structure u6 where
 Op:Int
 A:Int
 B:Int
 Table:Int
 Kinds:(List Int)
 Left:Bool
 Cond:af
 Keys:(List Int)
 Aggs:Value
 Items:Value
 Order:(List ne)
 Limit:Int
def go:Rp u6:=lO (cC (rI .i64) (cC (rI .i64) (cC (rI .i64) (cC (rI .i64) (cC (eY (rI .i64)) (cC rB (cC hf (cC (eY (rI .i64)) (cC rV (cC rV (cC (eY gT) (rI .i64)))))))))))) (fun x=>(x.Op,x.A,x.B,x.Table,x.Kinds,x.Left,x.Cond,x.Keys,x.Aggs,x.Items,x.Order,x.Limit))
def m3:jE go 8 rV (fun x=>x.Aggs):=(dR (aJ (aJ (aJ (aJ (aJ (aJ (aJ (aJ cN rfl) rfl) rfl) rfl) rfl) rfl) rfl) rfl))
def m2:jE go 9 rV (fun x=>x.Items):=(dR (aJ (aJ (aJ (aJ (aJ (aJ (aJ (aJ (aJ cN rfl) rfl) rfl) rfl) rfl) rfl) rfl) rfl) rfl))
def jw(y:an)(v8:Value)(v9:Value):u6:=⟨y.Op,y.A,y.B,y.Table,y.Kinds,y.Left,y.Cond,y.Keys,v8,v9,y.Order,y.Limit⟩
structure AM where
 Logic:bB
 root:an
 parts:Value
def gS:Rp AM:=lO (cC aE (cC ap rV)) (fun x=>(x.Logic,x.root,x.parts))
def xZ:ff gS 0 aE (fun x y=>{x with Logic:=y}):=cG dy (fun _ _=>rfl)
def s0:jE gS 1 ap (fun x=>x.root):=(dR (aJ cN rfl))
def xY:ff gS 1 ap (fun x y=>{x with root:=y}):=cG (aK dy rfl) (fun _ _=>rfl)
def yH:jE gS 13 rV (fun x=>x.parts):=(aJ (aJ cN rfl) rfl)
def lm(y:ay)(v2:Value):AM:=⟨y.Logic,y.root,v2⟩
def A4: ∀S,gS.rc S [.slice none 0 0,.int .i64 0,.int .i64 0,.int .i64 0,.int .i64 0,.slice none 0 0,.bool false,.slice none 0 0,.slice none 0 0,.slice none 0 0,.slice none 0 0,.slice none 0 0,.int .i64 0,.slice none 0 0] (lm ((⟨(⟨[]⟩:bB),(⟨(0:Int),(0:Int),(0:Int),(0:Int),[],false,(⟨[]⟩:af),[],[],[],[],(0:Int)⟩:an),[]⟩:ay)) (aM none 0 0)):=fun _=>⟨[.slice none 0 0],[.int .i64 0,.int .i64 0,.int .i64 0,.int .i64 0,.slice none 0 0,.bool false,.slice none 0 0,.slice none 0 0,.slice none 0 0,.slice none 0 0,.slice none 0 0,.int .i64 0,.slice none 0 0],rfl,dF _,⟨[.int .i64 0,.int .i64 0,.int .i64 0,.int .i64 0,.slice none 0 0,.bool false,.slice none 0 0,.slice none 0 0,.slice none 0 0,.slice none 0 0,.slice none 0 0,.int .i64 0],[.slice none 0 0],rfl,fP _,⟨rfl,rfl⟩⟩⟩
def fY{S:SH}{cs:List Value}{y:af}{v0:Value}{xs0:(List aj)}(k0:(eY ai).rc S [v0] xs0)(h:bW.rc S cs (cc y v0)):hf.rc S cs ((⟨xs0⟩:af)):=by
 have h0:=h
 exact(by rw [h0.1];exact k0)
def mq{S:SH}{cs:List Value}{y:bB}{v0:Value}{xs0:(List an)}(k0:(eY ap).rc S [v0] xs0)(h:gC.rc S cs (ib y v0)):aE.rc S cs ((⟨xs0⟩:bB)):=by
 have h0:=h
 exact(by rw [h0.1];exact k0)
def rG{S:SH}{cs:List Value}{y:an}{v8:Value}{v9:Value}{xs8:(List sI)}(k8:(eY fm).rc S [v8] xs8){xs9:(List af)}(k9:(eY hf).rc S [v9] xs9)(h:go.rc S cs (jw y v8 v9)):ap.rc S cs ((⟨y.Op,y.A,y.B,y.Table,y.Kinds,y.Left,y.Cond,y.Keys,xs8,xs9,y.Order,y.Limit⟩:an)):=by
 obtain⟨a0,b0,e0,h0,a1,b1,e1,Y,a2,b2,e2,H,a3,b3,e3,h3,a4,b4,e4,h4,a5,b5,e5,h5,a6,b6,e6,h6,a7,b7,e7,h7,a8,b8,e8,h8,a9,b9,e9,h9,a10,b10,e10,h10,h11⟩:=h
 exact⟨a0,b0,e0,h0,a1,b1,e1,Y,a2,b2,e2,H,a3,b3,e3,h3,a4,b4,e4,h4,a5,b5,e5,h5,a6,b6,e6,h6,a7,b7,e7,h7,a8,b8,e8,(by rw [h8.1];exact k8),a9,b9,e9,(by rw [h9.1];exact k9),a10,b10,e10,h10,h11⟩
def C7(t:ay):t=⟨t.Logic,t.root,t.parts⟩:=by cases t;rfl
def uX{S:SH}{cs:List Value}{y h1:ay}{v2:Value}{xs2:(List ay)}(k2:(eY al).rc S [v2] xs2)(h:gS.rc S cs (lm y v2))(hY:h1=(⟨y.Logic,y.root,xs2⟩:ay):=by first|rfl|exact C7 _):al.rc S cs h1:=by
 subst hY
 obtain⟨a0,b0,e0,h0,a1,b1,e1,Y,H⟩:=h
 exact(nF _ _ _).2 (⟨a0,b0,e0,h0,a1,b1,e1,Y,(by rw [H.1];exact k2)⟩)
def jN(y:af)(u:Value)(v:Value):kU bW bW 0 rV (cc y u) v (cc y v):=ri (gh rfl) rfl
def i8(y:bB)(u:Value)(v:Value):kU gC gC 0 rV (ib y u) v (ib y v):=ri (gh rfl) rfl
def qG(y:an)(v:Value):kU ap ut 8 rV (y) v (uB y v):=ri (fD (fD (fD (fD (fD (fD (fD (fD (Ar (gh rfl) rfl) rfl) rfl) rfl) rfl) rfl) rfl) rfl) rfl) rfl
def oA(y:an)(v8:Value)(v:Value):kU ut go 9 rV (uB y v8) v (jw y v8 v):=ri (fD (fD (fD (fD (fD (fD (fD (fD (fD (Ar (gh rfl) rfl) rfl) rfl) rfl) rfl) rfl) rfl) rfl) rfl) rfl) rfl
def qh(y:ay)(u:Value)(v:Value):kU gS gS 13 rV (lm y u) v (lm y v):=ri (fD (fD (gh rfl) rfl) rfl) rfl
def cS(b:Nat)(x:aw)(i:OI):List OE:=[bx (rH aZ [(1,aM (i.h 0).1 (i.h 0).2 x.kinds.length),(2,aM (i.h 1).1 (i.h 1).2 x.first.length)]) 102 b x,tip (eY (rI .i64)) 23 (i.h 0).1 (i.h 0).2 x.kinds,tip (rI .i64) 3 (i.h 1).1 (i.h 1).2 x.first]
abbrev Cm:Rp (List (List af)):=kE (eY hf) 3
def dc:Rp (List Value):=kE rV 3
def dP(_y:(List (List af)))(v0 v1 v2:Value):List Value:=[v0,v1,v2]
def m6:jE dc 0 rV (fun x=>(x[0]?).getD undef):=uK (by decide)
def m5:jE dc 1 rV (fun x=>(x[1]?).getD undef):=uK (by decide)
def m4:jE dc 2 rV (fun x=>(x[2]?).getD undef):=uK (by decide)
def rb: ∀S,dc.rc S [.slice none 0 0,.slice none 0 0,.slice none 0 0] (dP (List.replicate 3 []) (aM none 0 0) (aM none 0 0) (aM none 0 0)):=fun _=>⟨rfl,⟨[_],_,rfl,⟨rfl,rfl⟩,⟨[_],_,rfl,⟨rfl,rfl⟩,⟨[_],_,rfl,⟨rfl,rfl⟩,rfl⟩⟩⟩⟩
def rJ{S:SH}{cs:List Value}{y:(List (List af))}{v0:Value}{v1:Value}{v2:Value}{xs0:(List af)}(k0:(eY hf).rc S [v0] xs0){xs1:(List af)}(k1:(eY hf).rc S [v1] xs1){xs2:(List af)}(k2:(eY hf).rc S [v2] xs2)(h:dc.rc S cs (dP y v0 v1 v2)):Cm.rc S cs [xs0,xs1,xs2]:=GE h ⟨k0,k1,k2,trivial⟩
def jb(y:(List (List af)))(v1:Value)(v2:Value)(u:Value)(v:Value):kU dc dc 0 rV (dP y u v1 v2) v (dP y v v1 v2):=ug (q:=rV) (n:=3) (i:=0) (by decide)
def ja(y:(List (List af)))(v0:Value)(v2:Value)(u:Value)(v:Value):kU dc dc 1 rV (dP y v0 u v2) v (dP y v0 v v2):=ug (q:=rV) (n:=3) (i:=1) (by decide)
def i9(y:(List (List af)))(v0:Value)(v1:Value)(u:Value)(v:Value):kU dc dc 2 rV (dP y v0 v1 u) v (dP y v0 v1 v):=ug (q:=rV) (n:=3) (i:=2) (by decide)

end Go.Proofs.YtbmmihfagmchaaaGreat

