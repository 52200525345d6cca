/- di of this claim: D. -/
import Derived.Test.YtmogpgcfognefaaGreatDoorNdV4
set_option linter.all false
namespace Go.Proofs.YtmogpgcfognefaaGreatDoor
open Go

structure dQ where
 Kind:Int
 N:Int
 U:Int
 S:iZ
 deriving DecidableEq,Inhabited
def eJ:Rp dQ:=lI (co (rI .i64) (co (rI .i64) (co (rI .u64) rS))) (fun x=>(x.Kind,x.N,x.U,x.S))
theorem oO:lQ eJ 0 (rI .i64) (fun x=>x.Kind):=(dL cB)
theorem yi:gP eJ 0 (rI .i64) (fun x y=>{x with Kind:=y}):=cN dU (fun _ _=>rfl)
theorem rf:lQ eJ 1 (rI .i64) (fun x=>x.N):=(dL (aK cB rfl))
theorem CA:gP eJ 1 (rI .i64) (fun x y=>{x with N:=y}):=cN (bB dU rfl) (fun _ _=>rfl)
theorem vG:lQ eJ 2 (rI .u64) (fun x=>x.U):=(dL (aK (aK cB rfl) rfl))
theorem Je:gP eJ 2 (rI .u64) (fun x y=>{x with U:=y}):=cN (bB (bB dU rfl) rfl) (fun _ _=>rfl)
theorem oN:lQ eJ 3 rS (fun x=>x.S):=(aK (aK (aK cB rfl) rfl) rfl)
theorem Cz:gP eJ 3 rS (fun x y=>{x with S:=y}):=cN (bB (bB (bB ay rfl) rfl) rfl) (fun _ _=>rfl)
theorem rE: ∀S,eJ.rc S [.int .i64 0,.int .i64 0,.int .u64 0,.string ⟨#[]⟩] ((⟨(0:Int),(0:Int),(0:Int),[]⟩:dQ)):=fun _=>⟨[.int .i64 0],[.int .i64 0,.int .u64 0,.string ⟨#[]⟩],rfl,rfl,⟨[.int .i64 0],[.int .u64 0,.string ⟨#[]⟩],rfl,rfl,⟨[.int .u64 0],[.string ⟨#[]⟩],rfl,rfl,rfl⟩⟩⟩
structure bD where
 Tag:Int
 L:Int
 R:Int
 Col:Int
 Value:dQ
 deriving DecidableEq,Inhabited
def aV:Rp bD:=lI (co (rI .i64) (co (rI .i64) (co (rI .i64) (co (rI .i64) eJ)))) (fun x=>(x.Tag,x.L,x.R,x.Col,x.Value))
theorem ez:lQ aV 0 (rI .i64) (fun x=>x.Tag):=(dL cB)
theorem CD:gP aV 0 (rI .i64) (fun x y=>{x with Tag:=y}):=cN dU (fun _ _=>rfl)
theorem mq:lQ aV 1 (rI .i64) (fun x=>x.L):=(dL (aK cB rfl))
theorem vu:gP aV 1 (rI .i64) (fun x y=>{x with L:=y}):=cN (bB dU rfl) (fun _ _=>rfl)
theorem ly:lQ aV 2 (rI .i64) (fun x=>x.R):=(dL (aK (aK cB rfl) rfl))
theorem vt:gP aV 2 (rI .i64) (fun x y=>{x with R:=y}):=cN (bB (bB dU rfl) rfl) (fun _ _=>rfl)
theorem fX:lQ aV 3 (rI .i64) (fun x=>x.Col):=(dL (aK (aK (aK cB rfl) rfl) rfl))
theorem Ji:gP aV 3 (rI .i64) (fun x y=>{x with Col:=y}):=cN (bB (bB (bB dU rfl) rfl) rfl) (fun _ _=>rfl)
theorem lx:lQ aV 4 eJ (fun x=>x.Value):=(aK (aK (aK (aK cB rfl) rfl) rfl) rfl)
theorem Jh:gP aV 4 eJ (fun x y=>{x with Value:=y}):=cN (bB (bB (bB (bB ay rfl) rfl) rfl) rfl) (fun _ _=>rfl)
theorem kX: ∀S,aV.rc S [.int .i64 0,.int .i64 0,.int .i64 0,.int .i64 0,.int .i64 0,.int .i64 0,.int .u64 0,.string ⟨#[]⟩] ((⟨(0:Int),(0:Int),(0:Int),(0:Int),(⟨(0:Int),(0:Int),(0:Int),[]⟩:dQ)⟩:bD)):=fun _=>⟨[.int .i64 0],[.int .i64 0,.int .i64 0,.int .i64 0,.int .i64 0,.int .i64 0,.int .u64 0,.string ⟨#[]⟩],rfl,rfl,⟨[.int .i64 0],[.int .i64 0,.int .i64 0,.int .i64 0,.int .i64 0,.int .u64 0,.string ⟨#[]⟩],rfl,rfl,⟨[.int .i64 0],[.int .i64 0,.int .i64 0,.int .i64 0,.int .u64 0,.string ⟨#[]⟩],rfl,rfl,⟨[.int .i64 0],[.int .i64 0,.int .i64 0,.int .u64 0,.string ⟨#[]⟩],rfl,rfl,rE _⟩⟩⟩⟩
structure bp where
 Nodes:(List bD)
 deriving DecidableEq,Inhabited
def bn:Rp bp:=lI (eX aV) (fun x=>(x.Nodes))
theorem cU:lQ bn 0 (eX aV) (fun x=>x.Nodes):=cB
theorem qe: ∀S,bn.rc S [.slice none 0 0] ((⟨[]⟩:bp)):=fun _=>⟨none,0,rfl,gB _,jz _,.inl rfl⟩
structure gm where
 Tag:Int
 Arg:bp
 deriving DecidableEq,Inhabited
def dz:Rp gm:=lI (co (rI .i64) bn) (fun x=>(x.Tag,x.Arg))
theorem iR:lQ dz 0 (rI .i64) (fun x=>x.Tag):=(dL cB)
theorem qH:lQ dz 1 bn (fun x=>x.Arg):=(aK cB rfl)
theorem N8:gP dz 1 bn (fun x y=>{x with Arg:=y}):=cN (bB ay rfl) (fun _ _=>rfl)
theorem vi: ∀S,dz.rc S [.int .i64 0,.slice none 0 0] ((⟨(0:Int),(⟨[]⟩:bp)⟩:gm)):=fun _=>⟨[.int .i64 0],[.slice none 0 0],rfl,rfl,qe _⟩
structure kW where
 Col:Int
 Desc:Bool
 deriving DecidableEq,Inhabited
def iG:Rp kW:=lI (co (rI .i64) rB) (fun x=>(x.Col,x.Desc))
theorem wR:lQ iG 0 (rI .i64) (fun x=>x.Col):=(dL cB)
theorem OP:lQ iG 1 rB (fun x=>x.Desc):=(aK cB rfl)
structure aw where
 Op:Int
 A:Int
 B:Int
 Table:Int
 Kinds:(List Int)
 Left:Bool
 Cond:bp
 Keys:(List Int)
 Aggs:(List gm)
 Items:(List bp)
 Order:(List kW)
 Limit:Int
 deriving DecidableEq,Inhabited
def aA:Rp aw:=lI (co (rI .i64) (co (rI .i64) (co (rI .i64) (co (rI .i64) (co (eX (rI .i64)) (co rB (co bn (co (eX (rI .i64)) (co (eX dz) (co (eX bn) (co (eX iG) (rI .i64)))))))))))) (fun x=>(x.Op,x.A,x.B,x.Table,x.Kinds,x.Left,x.Cond,x.Keys,x.Aggs,x.Items,x.Order,x.Limit))
theorem cj:lQ aA 0 (rI .i64) (fun x=>x.Op):=(dL cB)
theorem pF:gP aA 0 (rI .i64) (fun x y=>{x with Op:=y}):=cN dU (fun _ _=>rfl)
theorem dE:lQ aA 1 (rI .i64) (fun x=>x.A):=(dL (aK cB rfl))
theorem s0:gP aA 1 (rI .i64) (fun x y=>{x with A:=y}):=cN (bB dU rfl) (fun _ _=>rfl)
theorem ew:lQ aA 2 (rI .i64) (fun x=>x.B):=(dL (aK (aK cB rfl) rfl))
theorem sZ:gP aA 2 (rI .i64) (fun x y=>{x with B:=y}):=cN (bB (bB dU rfl) rfl) (fun _ _=>rfl)
theorem d8:lQ aA 3 (rI .i64) (fun x=>x.Table):=(dL (aK (aK (aK cB rfl) rfl) rfl))
theorem d7:lQ aA 4 (eX (rI .i64)) (fun x=>x.Kinds):=(dL (aK (aK (aK (aK cB rfl) rfl) rfl) rfl))
theorem vq:gP aA 4 (eX (rI .i64)) (fun x y=>{x with Kinds:=y}):=cN (bB (bB (bB (bB dU rfl) rfl) rfl) rfl) (fun _ _=>rfl)
theorem Dg:lQ aA 5 rB (fun x=>x.Left):=(dL (aK (aK (aK (aK (aK cB rfl) rfl) rfl) rfl) rfl))
theorem oP:lQ aA 6 bn (fun x=>x.Cond):=(dL (aK (aK (aK (aK (aK (aK cB rfl) rfl) rfl) rfl) rfl) rfl))
theorem dO:lQ aA 7 (eX (rI .i64)) (fun x=>x.Keys):=(dL (aK (aK (aK (aK (aK (aK (aK cB rfl) rfl) rfl) rfl) rfl) rfl) rfl))
theorem Jg:gP aA 7 (eX (rI .i64)) (fun x y=>{x with Keys:=y}):=cN (bB (bB (bB (bB (bB (bB (bB dU rfl) rfl) rfl) rfl) rfl) rfl) rfl) (fun _ _=>rfl)
theorem eO:lQ aA 8 (eX dz) (fun x=>x.Aggs):=(dL (aK (aK (aK (aK (aK (aK (aK (aK cB rfl) rfl) rfl) rfl) rfl) rfl) rfl) rfl))
theorem nh:lQ aA 9 (eX bn) (fun x=>x.Items):=(dL (aK (aK (aK (aK (aK (aK (aK (aK (aK cB rfl) rfl) rfl) rfl) rfl) rfl) rfl) rfl) rfl))
theorem io:lQ aA 10 (eX iG) (fun x=>x.Order):=(dL (aK (aK (aK (aK (aK (aK (aK (aK (aK (aK cB rfl) rfl) rfl) rfl) rfl) rfl) rfl) rfl) rfl) rfl))
theorem mY:lQ aA 11 (rI .i64) (fun x=>x.Limit):=(aK (aK (aK (aK (aK (aK (aK (aK (aK (aK (aK cB rfl) rfl) rfl) rfl) rfl) rfl) rfl) rfl) rfl) rfl) rfl)
theorem ev: ∀S,aA.rc S [.int .i64 0,.int .i64 0,.int .i64 0,.int .i64 0,.slice none 0 0,.bool false,.slice none 0 0,.slice none 0 0,.slice none 0 0,.slice none 0 0,.slice none 0 0,.int .i64 0] ((⟨(0:Int),(0:Int),(0:Int),(0:Int),[],false,(⟨[]⟩:bp),[],[],[],[],(0:Int)⟩:aw)):=fun _=>⟨[.int .i64 0],[.int .i64 0,.int .i64 0,.int .i64 0,.slice none 0 0,.bool false,.slice none 0 0,.slice none 0 0,.slice none 0 0,.slice none 0 0,.slice none 0 0,.int .i64 0],rfl,rfl,⟨[.int .i64 0],[.int .i64 0,.int .i64 0,.slice none 0 0,.bool false,.slice none 0 0,.slice none 0 0,.slice none 0 0,.slice none 0 0,.slice none 0 0,.int .i64 0],rfl,rfl,⟨[.int .i64 0],[.int .i64 0,.slice none 0 0,.bool false,.slice none 0 0,.slice none 0 0,.slice none 0 0,.slice none 0 0,.slice none 0 0,.int .i64 0],rfl,rfl,⟨[.int .i64 0],[.slice none 0 0,.bool false,.slice none 0 0,.slice none 0 0,.slice none 0 0,.slice none 0 0,.slice none 0 0,.int .i64 0],rfl,rfl,⟨[.slice none 0 0],[.bool false,.slice none 0 0,.slice none 0 0,.slice none 0 0,.slice none 0 0,.slice none 0 0,.int .i64 0],rfl,⟨none,0,rfl,gB _,jz _,.inl rfl⟩,⟨[.bool false],[.slice none 0 0,.slice none 0 0,.slice none 0 0,.slice none 0 0,.slice none 0 0,.int .i64 0],rfl,rfl,⟨[.slice none 0 0],[.slice none 0 0,.slice none 0 0,.slice none 0 0,.slice none 0 0,.int .i64 0],rfl,qe _,⟨[.slice none 0 0],[.slice none 0 0,.slice none 0 0,.slice none 0 0,.int .i64 0],rfl,⟨none,0,rfl,gB _,jz _,.inl rfl⟩,⟨[.slice none 0 0],[.slice none 0 0,.slice none 0 0,.int .i64 0],rfl,⟨none,0,rfl,gB _,jz _,.inl rfl⟩,⟨[.slice none 0 0],[.slice none 0 0,.int .i64 0],rfl,⟨none,0,rfl,gB _,jz _,.inl rfl⟩,⟨[.slice none 0 0],[.int .i64 0],rfl,⟨none,0,rfl,gB _,jz _,.inl rfl⟩,rfl⟩⟩⟩⟩⟩⟩⟩⟩⟩⟩⟩
structure aq where
 nodes:(List aw)
 kinds:(List (List Int))
 open_:(List Int)
 n:aw
 a_:(List Int)
 b:(List Int)
 result:(List Int)
 deriving DecidableEq,Inhabited
def bC:Rp aq:=lI (co (eX aA) (co (eX (eX (rI .i64))) (co (Qg:Rp (List Int)) (co aA (co (eX (rI .i64)) (co (eX (rI .i64)) (eX (rI .i64)))))))) (fun x=>(x.nodes,x.kinds,x.open_,x.n,x.a_,x.b,x.result))
theorem AE:lQ bC 0 (eX aA) (fun x=>x.nodes):=(dL cB)
theorem Mr:gP bC 0 (eX aA) (fun x y=>{x with nodes:=y}):=cN dU (fun _ _=>rfl)
theorem Mq:gP bC 1 (eX (eX (rI .i64))) (fun x y=>{x with kinds:=y}):=cN (bB dU rfl) (fun _ _=>rfl)
theorem Mp:gP bC 2 (Qg:Rp (List Int)) (fun x y=>{x with open_:=y}):=cN (bB (bB dU rfl) rfl) (fun _ _=>rfl)
theorem fQ:lQ bC 3 aA (fun x=>x.n):=(dL (aK (aK (aK cB rfl) rfl) rfl))
theorem Mo:gP bC 3 aA (fun x y=>{x with n:=y}):=cN (bB (bB (bB dU rfl) rfl) rfl) (fun _ _=>rfl)
theorem o6:lQ bC 15 (eX (rI .i64)) (fun x=>x.a_):=(dL (aK (aK (aK (aK cB rfl) rfl) rfl) rfl))
theorem EL:gP bC 15 (eX (rI .i64)) (fun x y=>{x with a_:=y}):=cN (bB (bB (bB (bB dU rfl) rfl) rfl) rfl) (fun _ _=>rfl)
theorem Fb:lQ bC 16 (eX (rI .i64)) (fun x=>x.b):=(dL (aK (aK (aK (aK (aK cB rfl) rfl) rfl) rfl) rfl))
theorem EK:gP bC 16 (eX (rI .i64)) (fun x y=>{x with b:=y}):=cN (bB (bB (bB (bB (bB dU rfl) rfl) rfl) rfl) rfl) (fun _ _=>rfl)
theorem AD:lQ bC 17 (eX (rI .i64)) (fun x=>x.result):=(aK (aK (aK (aK (aK (aK cB rfl) rfl) rfl) rfl) rfl) rfl)
theorem sL:gP bC 17 (eX (rI .i64)) (fun x y=>{x with result:=y}):=cN (bB (bB (bB (bB (bB (bB ay rfl) rfl) rfl) rfl) rfl) rfl) (fun _ _=>rfl)
theorem PO: ∀S,bC.rc S [.slice none 0 0,.slice none 0 0,.slice none 0 0,.int .i64 0,.int .i64 0,.int .i64 0,.int .i64 0,.slice none 0 0,.bool false,.slice none 0 0,.slice none 0 0,.slice none 0 0,.slice none 0 0,.slice none 0 0,.int .i64 0,.slice none 0 0,.slice none 0 0,.slice none 0 0] ((⟨[],[],[],(⟨(0:Int),(0:Int),(0:Int),(0:Int),[],false,(⟨[]⟩:bp),[],[],[],[],(0:Int)⟩:aw),[],[],[]⟩:aq)):=fun _=>⟨[.slice none 0 0],[.slice none 0 0,.slice none 0 0,.int .i64 0,.int .i64 0,.int .i64 0,.int .i64 0,.slice none 0 0,.bool false,.slice none 0 0,.slice none 0 0,.slice none 0 0,.slice none 0 0,.slice none 0 0,.int .i64 0,.slice none 0 0,.slice none 0 0,.slice none 0 0],rfl,⟨none,0,rfl,gB _,jz _,.inl rfl⟩,⟨[.slice none 0 0],[.slice none 0 0,.int .i64 0,.int .i64 0,.int .i64 0,.int .i64 0,.slice none 0 0,.bool false,.slice none 0 0,.slice none 0 0,.slice none 0 0,.slice none 0 0,.slice none 0 0,.int .i64 0,.slice none 0 0,.slice none 0 0,.slice none 0 0],rfl,⟨none,0,rfl,gB _,jz _,.inl rfl⟩,⟨[.slice none 0 0],[.int .i64 0,.int .i64 0,.int .i64 0,.int .i64 0,.slice none 0 0,.bool false,.slice none 0 0,.slice none 0 0,.slice none 0 0,.slice none 0 0,.slice none 0 0,.int .i64 0,.slice none 0 0,.slice none 0 0,.slice none 0 0],rfl,⟨_,rfl,rfl⟩,⟨[.int .i64 0,.int .i64 0,.int .i64 0,.int .i64 0,.slice none 0 0,.bool false,.slice none 0 0,.slice none 0 0,.slice none 0 0,.slice none 0 0,.slice none 0 0,.int .i64 0],[.slice none 0 0,.slice none 0 0,.slice none 0 0],rfl,ev _,⟨[.slice none 0 0],[.slice none 0 0,.slice none 0 0],rfl,⟨none,0,rfl,gB _,jz _,.inl rfl⟩,⟨[.slice none 0 0],[.slice none 0 0],rfl,⟨none,0,rfl,gB _,jz _,.inl rfl⟩,⟨none,0,rfl,gB _,jz _,.inl rfl⟩⟩⟩⟩⟩⟩⟩
structure bL where
 Name:iZ
 Kind:Int
 deriving DecidableEq,Inhabited
def cH:Rp bL:=lI (co rS (rI .i64)) (fun x=>(x.Name,x.Kind))
theorem ug:lQ cH 0 rS (fun x=>x.Name):=(dL cB)
theorem A6:gP cH 0 rS (fun x y=>{x with Name:=y}):=cN dU (fun _ _=>rfl)
theorem uf:lQ cH 1 (rI .i64) (fun x=>x.Kind):=(aK cB rfl)
theorem A5:gP cH 1 (rI .i64) (fun x y=>{x with Kind:=y}):=cN (bB ay rfl) (fun _ _=>rfl)
theorem qT: ∀S,cH.rc S [.string ⟨#[]⟩,.int .i64 0] ((⟨[],(0:Int)⟩:bL)):=fun _=>⟨[.string ⟨#[]⟩],[.int .i64 0],rfl,rfl,rfl⟩
structure DQ where
 word:iZ
 kind:Int
 deriving DecidableEq,Inhabited
def vv:Rp DQ:=lI (co rS (rI .i64)) (fun x=>(x.word,x.kind))
theorem M7:lQ vv 0 rS (fun x=>x.word):=(dL cB)
theorem M6:lQ vv 1 (rI .i64) (fun x=>x.kind):=(aK cB rfl)
theorem PP: ∀S,vv.rc S [.string ⟨#[]⟩,.int .i64 0] ((⟨[],(0:Int)⟩:DQ)):=fun _=>⟨[.string ⟨#[]⟩],[.int .i64 0],rfl,rfl,rfl⟩
structure bU where
 Name:iZ
 Columns:(List bL)
 Keys:(List Int)
 deriving DecidableEq,Inhabited
def cT:Rp bU:=lI (co rS (co (eX cH) (eX (rI .i64)))) (fun x=>(x.Name,x.Columns,x.Keys))
theorem tm:lQ cT 0 rS (fun x=>x.Name):=(dL cB)
theorem Jf:gP cT 0 rS (fun x y=>{x with Name:=y}):=cN dU (fun _ _=>rfl)
theorem iQ:lQ cT 1 (eX cH) (fun x=>x.Columns):=(dL (aK cB rfl))
theorem CC:gP cT 1 (eX cH) (fun x y=>{x with Columns:=y}):=cN (bB dU rfl) (fun _ _=>rfl)
theorem mp:lQ cT 2 (eX (rI .i64)) (fun x=>x.Keys):=(aK (aK cB rfl) rfl)
theorem CB:gP cT 2 (eX (rI .i64)) (fun x y=>{x with Keys:=y}):=cN (bB (bB ay rfl) rfl) (fun _ _=>rfl)
theorem Cm: ∀S,cT.rc S [.string ⟨#[]⟩,.slice none 0 0,.slice none 0 0] ((⟨[],[],[]⟩:bU)):=fun _=>⟨[.string ⟨#[]⟩],[.slice none 0 0,.slice none 0 0],rfl,rfl,⟨[.slice none 0 0],[.slice none 0 0],rfl,⟨none,0,rfl,gB _,jz _,.inl rfl⟩,⟨none,0,rfl,gB _,jz _,.inl rfl⟩⟩⟩
structure bG where
 Tables:(List bU)
 deriving DecidableEq,Inhabited
def bJ:Rp bG:=lI (eX cT) (fun x=>(x.Tables))
theorem fI:lQ bJ 0 (eX cT) (fun x=>x.Tables):=cB
theorem FX:gP bJ 0 (eX cT) (fun x y=>{x with Tables:=y}):=cN ay (fun _ _=>rfl)
theorem oe: ∀S,bJ.rc S [.slice none 0 0] ((⟨[]⟩:bG)):=fun _=>⟨none,0,rfl,gB _,jz _,.inl rfl⟩
structure cL where
 Nodes:(List aw)
 At:Int
 Way:Int
 Cols:(List Int)
 deriving DecidableEq,Inhabited
def bR:Rp cL:=lI (co (eX aA) (co (rI .i64) (co (rI .i64) (eX (rI .i64))))) (fun x=>(x.Nodes,x.At,x.Way,x.Cols))
theorem gJ:lQ bR 0 (eX aA) (fun x=>x.Nodes):=(dL cB)
theorem Ah:gP bR 0 (eX aA) (fun x y=>{x with Nodes:=y}):=cN dU (fun _ _=>rfl)
theorem gj:lQ bR 1 (rI .i64) (fun x=>x.At):=(dL (aK cB rfl))
theorem EN:gP bR 1 (rI .i64) (fun x y=>{x with At:=y}):=cN (bB dU rfl) (fun _ _=>rfl)
theorem ju:lQ bR 2 (rI .i64) (fun x=>x.Way):=(dL (aK (aK cB rfl) rfl))
theorem EM:gP bR 2 (rI .i64) (fun x y=>{x with Way:=y}):=cN (bB (bB dU rfl) rfl) (fun _ _=>rfl)
theorem o7:lQ bR 3 (eX (rI .i64)) (fun x=>x.Cols):=(aK (aK (aK cB rfl) rfl) rfl)
theorem Mt:gP bR 3 (eX (rI .i64)) (fun x y=>{x with Cols:=y}):=cN (bB (bB (bB ay rfl) rfl) rfl) (fun _ _=>rfl)
theorem mu: ∀S,bR.rc S [.slice none 0 0,.int .i64 0,.int .i64 0,.slice none 0 0] ((⟨[],(0:Int),(0:Int),[]⟩:cL)):=fun _=>⟨[.slice none 0 0],[.int .i64 0,.int .i64 0,.slice none 0 0],rfl,⟨none,0,rfl,gB _,jz _,.inl rfl⟩,⟨[.int .i64 0],[.int .i64 0,.slice none 0 0],rfl,rfl,⟨[.int .i64 0],[.slice none 0 0],rfl,rfl,⟨none,0,rfl,gB _,jz _,.inl rfl⟩⟩⟩⟩
structure da where
 Frags:(List cL)
 deriving DecidableEq,Inhabited
def ce:Rp da:=lI (eX bR) (fun x=>(x.Frags))
theorem dp:lQ ce 0 (eX bR) (fun x=>x.Frags):=cB
theorem Ms:gP ce 0 (eX bR) (fun x y=>{x with Frags:=y}):=cN ay (fun _ _=>rfl)
theorem tK: ∀S,ce.rc S [.slice none 0 0] ((⟨[]⟩:da)):=fun _=>⟨none,0,rfl,gB _,jz _,.inl rfl⟩
structure ci where
 Plan:da
 c:bG
 kinds:(List (List (List Int)))
 deriving DecidableEq,Inhabited
def ie:Rp ci:=lI (co ce (co bJ (eX (eX (eX (rI .i64)))))) (fun x=>(x.Plan,x.c,x.kinds))
theorem jG:lQ ie 0 ce (fun x=>x.Plan):=(dL cB)
theorem vF:lQ ie 1 bJ (fun x=>x.c):=(dL (aK cB rfl))
theorem zB:lQ ie 2 (eX (eX (eX (rI .i64)))) (fun x=>x.kinds):=(aK (aK cB rfl) rfl)
structure aS where
 Kind:Int
 Cols:(List Int)
 deriving DecidableEq,Inhabited
def aR:Rp aS:=lI (co (rI .i64) (eX (rI .i64))) (fun x=>(x.Kind,x.Cols))
theorem gi:lQ aR 0 (rI .i64) (fun x=>x.Kind):=(dL cB)
theorem fO:gP aR 0 (rI .i64) (fun x y=>{x with Kind:=y}):=cN dU (fun _ _=>rfl)
theorem jt:lQ aR 1 (eX (rI .i64)) (fun x=>x.Cols):=(aK cB rfl)
theorem uT:gP aR 1 (eX (rI .i64)) (fun x y=>{x with Cols:=y}):=cN (bB ay rfl) (fun _ _=>rfl)
theorem eo: ∀S,aR.rc S [.int .i64 0,.slice none 0 0] ((⟨(0:Int),[]⟩:aS)):=fun _=>⟨[.int .i64 0],[.slice none 0 0],rfl,rfl,⟨none,0,rfl,gB _,jz _,.inl rfl⟩⟩
structure dq where
 checker:(Option ci)
 n:aw
 a_:aS
 b:aS
 deriving DecidableEq,Inhabited
def mw:Rp dq:=lI (co (NC ie) (co aA (co aR aR))) (fun x=>(x.checker,x.n,x.a_,x.b))
theorem Fa:lQ mw 0 (NC ie) (fun x=>x.checker):=(dL cB)
theorem Mn:gP mw 0 (NC ie) (fun x y=>{x with checker:=y}):=cN dU (fun _ _=>rfl)
theorem xp:lQ mw 1 aA (fun x=>x.n):=(dL (aK cB rfl))
theorem Mm:gP mw 1 aA (fun x y=>{x with n:=y}):=cN (bB dU rfl) (fun _ _=>rfl)
theorem sR:lQ mw 13 aR (fun x=>x.a_):=(dL (aK (aK cB rfl) rfl))
theorem Ml:gP mw 13 aR (fun x y=>{x with a_:=y}):=cN (bB (bB dU rfl) rfl) (fun _ _=>rfl)
theorem E9:lQ mw 15 aR (fun x=>x.b):=(aK (aK (aK cB rfl) rfl) rfl)
theorem Mk:gP mw 15 aR (fun x y=>{x with b:=y}):=cN (bB (bB (bB ay rfl) rfl) rfl) (fun _ _=>rfl)
theorem PN: ∀S,mw.rc S [.pointer none,.int .i64 0,.int .i64 0,.int .i64 0,.int .i64 0,.slice none 0 0,.bool false,.slice none 0 0,.slice none 0 0,.slice none 0 0,.slice none 0 0,.slice none 0 0,.int .i64 0,.int .i64 0,.slice none 0 0,.int .i64 0,.slice none 0 0] ((⟨none,(⟨(0:Int),(0:Int),(0:Int),(0:Int),[],false,(⟨[]⟩:bp),[],[],[],[],(0:Int)⟩:aw),(⟨(0:Int),[]⟩:aS),(⟨(0:Int),[]⟩:aS)⟩:dq)):=fun _=>⟨[.pointer none],[.int .i64 0,.int .i64 0,.int .i64 0,.int .i64 0,.slice none 0 0,.bool false,.slice none 0 0,.slice none 0 0,.slice none 0 0,.slice none 0 0,.slice none 0 0,.int .i64 0,.int .i64 0,.slice none 0 0,.int .i64 0,.slice none 0 0],rfl,⟨_,rfl,rfl⟩,⟨[.int .i64 0,.int .i64 0,.int .i64 0,.int .i64 0,.slice none 0 0,.bool false,.slice none 0 0,.slice none 0 0,.slice none 0 0,.slice none 0 0,.slice none 0 0,.int .i64 0],[.int .i64 0,.slice none 0 0,.int .i64 0,.slice none 0 0],rfl,ev _,⟨[.int .i64 0,.slice none 0 0],[.int .i64 0,.slice none 0 0],rfl,eo _,eo _⟩⟩⟩
structure eC where
 Nodes:(List aw)
 deriving DecidableEq,Inhabited
def qk:Rp eC:=lI (eX aA) (fun x=>(x.Nodes))
theorem tn:lQ qk 0 (eX aA) (fun x=>x.Nodes):=cB
structure DBase where
 Tables:(List (List (List dQ)))
 deriving DecidableEq,Inhabited
structure DK where
 Tables:Value
def iF:Rp DK:=lI rV (fun x=>(x.Tables))
theorem qG:lQ iF 0 rV (fun x=>x.Tables):=cB
theorem Cy:gP iF 0 rV (fun x y=>{x with Tables:=y}):=cN ay (fun _ _=>rfl)
def jF(y:bG)(v0:Value):DK:=⟨v0⟩
theorem yT: ∀S,iF.rc S [.slice none 0 0] (jF ((⟨[]⟩:bG)) (aD none 0 0)):=fun _=>⟨rfl,rfl⟩
structure LK where
 Frags:Value
def qY:Rp LK:=lI rV (fun x=>(x.Frags))
theorem Bi:lQ qY 0 rV (fun x=>x.Frags):=cB
theorem Hv:gP qY 0 rV (fun x y=>{x with Frags:=y}):=cN ay (fun _ _=>rfl)
def sP(y:da)(v0:Value):LK:=⟨v0⟩
theorem EE: ∀S,qY.rc S [.slice none 0 0] (sP ((⟨[]⟩:da)) (aD none 0 0)):=fun _=>⟨rfl,rfl⟩
structure LL where
 Nodes:Value
def gG:Rp LL:=lI rV (fun x=>(x.Nodes))
theorem mb:lQ gG 0 rV (fun x=>x.Nodes):=cB
theorem A4:gP gG 0 rV (fun x y=>{x with Nodes:=y}):=cN ay (fun _ _=>rfl)
def gI(y:bp)(v0:Value):LL:=⟨v0⟩
theorem uO: ∀S,gG.rc S [.slice none 0 0] (gI ((⟨[]⟩:bp)) (aD none 0 0)):=fun _=>⟨rfl,rfl⟩
structure II where
 Op:Int
 A:Int
 B:Int
 Table:Int
 Kinds:(List Int)
 Left:Bool
 Cond:bp
 Keys:(List Int)
 Aggs:Value
 Items:(List bp)
 Order:(List kW)
 Limit:Int
def CH:Rp II:=lI (co (rI .i64) (co (rI .i64) (co (rI .i64) (co (rI .i64) (co (eX (rI .i64)) (co rB (co bn (co (eX (rI .i64)) (co rV (co (eX bn) (co (eX iG) (rI .i64)))))))))))) (fun x=>(x.Op,x.A,x.B,x.Table,x.Kinds,x.Left,x.Cond,x.Keys,x.Aggs,x.Items,x.Order,x.Limit))
def C5(y:aw)(v8:Value):II:=⟨y.Op,y.A,y.B,y.Table,y.Kinds,y.Left,y.Cond,y.Keys,v8,y.Items,y.Order,y.Limit⟩
structure DI where
 Op:Int
 A:Int
 B:Int
 Table:Int
 Kinds:(List Int)
 Left:Bool
 Cond:bp
 Keys:(List Int)
 Aggs:Value
 Items:Value
 Order:(List kW)
 Limit:Int
def gF:Rp DI:=lI (co (rI .i64) (co (rI .i64) (co (rI .i64) (co (rI .i64) (co (eX (rI .i64)) (co rB (co bn (co (eX (rI .i64)) (co rV (co rV (co (eX iG) (rI .i64)))))))))))) (fun x=>(x.Op,x.A,x.B,x.Table,x.Kinds,x.Left,x.Cond,x.Keys,x.Aggs,x.Items,x.Order,x.Limit))
theorem Df:lQ gF 6 bn (fun x=>x.Cond):=(dL (aK (aK (aK (aK (aK (aK cB rfl) rfl) rfl) rfl) rfl) rfl))
theorem Cx:gP gF 6 bn (fun x y=>{x with Cond:=y}):=cN (bB (bB (bB (bB (bB (bB dU rfl) rfl) rfl) rfl) rfl) rfl) (fun _ _=>rfl)
theorem wQ:lQ gF 8 rV (fun x=>x.Aggs):=(dL (aK (aK (aK (aK (aK (aK (aK (aK cB rfl) rfl) rfl) rfl) rfl) rfl) rfl) rfl))
theorem wP:lQ gF 9 rV (fun x=>x.Items):=(dL (aK (aK (aK (aK (aK (aK (aK (aK (aK cB rfl) rfl) rfl) rfl) rfl) rfl) rfl) rfl) rfl))
theorem BI:gP gF 10 (eX iG) (fun x y=>{x with Order:=y}):=cN (bB (bB (bB (bB (bB (bB (bB (bB (bB (bB dU rfl) rfl) rfl) rfl) rfl) rfl) rfl) rfl) rfl) rfl) (fun _ _=>rfl)
def lY(y:aw)(v8:Value)(v9:Value):DI:=⟨y.Op,y.A,y.B,y.Table,y.Kinds,y.Left,y.Cond,y.Keys,v8,v9,y.Order,y.Limit⟩
theorem FF: ∀S,gF.rc S [.int .i64 0,.int .i64 0,.int .i64 0,.int .i64 0,.slice none 0 0,.bool false,.slice none 0 0,.slice none 0 0,.slice none 0 0,.slice none 0 0,.slice none 0 0,.int .i64 0] (lY ((⟨(0:Int),(0:Int),(0:Int),(0:Int),[],false,(⟨[]⟩:bp),[],[],[],[],(0:Int)⟩:aw)) (aD none 0 0) (aD none 0 0)):=fun _=>⟨[.int .i64 0],[.int .i64 0,.int .i64 0,.int .i64 0,.slice none 0 0,.bool false,.slice none 0 0,.slice none 0 0,.slice none 0 0,.slice none 0 0,.slice none 0 0,.int .i64 0],rfl,rfl,⟨[.int .i64 0],[.int .i64 0,.int .i64 0,.slice none 0 0,.bool false,.slice none 0 0,.slice none 0 0,.slice none 0 0,.slice none 0 0,.slice none 0 0,.int .i64 0],rfl,rfl,⟨[.int .i64 0],[.int .i64 0,.slice none 0 0,.bool false,.slice none 0 0,.slice none 0 0,.slice none 0 0,.slice none 0 0,.slice none 0 0,.int .i64 0],rfl,rfl,⟨[.int .i64 0],[.slice none 0 0,.bool false,.slice none 0 0,.slice none 0 0,.slice none 0 0,.slice none 0 0,.slice none 0 0,.int .i64 0],rfl,rfl,⟨[.slice none 0 0],[.bool false,.slice none 0 0,.slice none 0 0,.slice none 0 0,.slice none 0 0,.slice none 0 0,.int .i64 0],rfl,⟨none,0,rfl,gB _,jz _,.inl rfl⟩,⟨[.bool false],[.slice none 0 0,.slice none 0 0,.slice none 0 0,.slice none 0 0,.slice none 0 0,.int .i64 0],rfl,rfl,⟨[.slice none 0 0],[.slice none 0 0,.slice none 0 0,.slice none 0 0,.slice none 0 0,.int .i64 0],rfl,qe _,⟨[.slice none 0 0],[.slice none 0 0,.slice none 0 0,.slice none 0 0,.int .i64 0],rfl,⟨none,0,rfl,gB _,jz _,.inl rfl⟩,⟨[.slice none 0 0],[.slice none 0 0,.slice none 0 0,.int .i64 0],rfl,⟨rfl,rfl⟩,⟨[.slice none 0 0],[.slice none 0 0,.int .i64 0],rfl,⟨rfl,rfl⟩,⟨[.slice none 0 0],[.int .i64 0],rfl,⟨none,0,rfl,gB _,jz _,.inl rfl⟩,rfl⟩⟩⟩⟩⟩⟩⟩⟩⟩⟩⟩
structure IH where
 Op:Int
 A:Int
 B:Int
 Table:Int
 Kinds:(List Int)
 Left:Bool
 Cond:bp
 Keys:(List Int)
 Aggs:(List gm)
 Items:Value
 Order:(List kW)
 Limit:Int
def lc:Rp IH:=lI (co (rI .i64) (co (rI .i64) (co (rI .i64) (co (rI .i64) (co (eX (rI .i64)) (co rB (co bn (co (eX (rI .i64)) (co (eX dz) (co rV (co (eX iG) (rI .i64)))))))))))) (fun x=>(x.Op,x.A,x.B,x.Table,x.Kinds,x.Left,x.Cond,x.Keys,x.Aggs,x.Items,x.Order,x.Limit))
theorem FW:gP lc 0 (rI .i64) (fun x y=>{x with Op:=y}):=cN dU (fun _ _=>rfl)
theorem FV:gP lc 1 (rI .i64) (fun x y=>{x with A:=y}):=cN (bB dU rfl) (fun _ _=>rfl)
theorem FU:gP lc 2 (rI .i64) (fun x y=>{x with B:=y}):=cN (bB (bB dU rfl) rfl) (fun _ _=>rfl)
theorem Gq:lQ lc 9 rV (fun x=>x.Items):=(dL (aK (aK (aK (aK (aK (aK (aK (aK (aK cB rfl) rfl) rfl) rfl) rfl) rfl) rfl) rfl) rfl))
def oI(y:aw)(v9:Value):IH:=⟨y.Op,y.A,y.B,y.Table,y.Kinds,y.Left,y.Cond,y.Keys,y.Aggs,v9,y.Order,y.Limit⟩
theorem Cl: ∀S,lc.rc S [.int .i64 0,.int .i64 0,.int .i64 0,.int .i64 0,.slice none 0 0,.bool false,.slice none 0 0,.slice none 0 0,.slice none 0 0,.slice none 0 0,.slice none 0 0,.int .i64 0] (oI ((⟨(0:Int),(0:Int),(0:Int),(0:Int),[],false,(⟨[]⟩:bp),[],[],[],[],(0:Int)⟩:aw)) (aD none 0 0)):=fun _=>⟨[.int .i64 0],[.int .i64 0,.int .i64 0,.int .i64 0,.slice none 0 0,.bool false,.slice none 0 0,.slice none 0 0,.slice none 0 0,.slice none 0 0,.slice none 0 0,.int .i64 0],rfl,rfl,⟨[.int .i64 0],[.int .i64 0,.int .i64 0,.slice none 0 0,.bool false,.slice none 0 0,.slice none 0 0,.slice none 0 0,.slice none 0 0,.slice none 0 0,.int .i64 0],rfl,rfl,⟨[.int .i64 0],[.int .i64 0,.slice none 0 0,.bool false,.slice none 0 0,.slice none 0 0,.slice none 0 0,.slice none 0 0,.slice none 0 0,.int .i64 0],rfl,rfl,⟨[.int .i64 0],[.slice none 0 0,.bool false,.slice none 0 0,.slice none 0 0,.slice none 0 0,.slice none 0 0,.slice none 0 0,.int .i64 0],rfl,rfl,⟨[.slice none 0 0],[.bool false,.slice none 0 0,.slice none 0 0,.slice none 0 0,.slice none 0 0,.slice none 0 0,.int .i64 0],rfl,⟨none,0,rfl,gB _,jz _,.inl rfl⟩,⟨[.bool false],[.slice none 0 0,.slice none 0 0,.slice none 0 0,.slice none 0 0,.slice none 0 0,.int .i64 0],rfl,rfl,⟨[.slice none 0 0],[.slice none 0 0,.slice none 0 0,.slice none 0 0,.slice none 0 0,.int .i64 0],rfl,qe _,⟨[.slice none 0 0],[.slice none 0 0,.slice none 0 0,.slice none 0 0,.int .i64 0],rfl,⟨none,0,rfl,gB _,jz _,.inl rfl⟩,⟨[.slice none 0 0],[.slice none 0 0,.slice none 0 0,.int .i64 0],rfl,⟨none,0,rfl,gB _,jz _,.inl rfl⟩,⟨[.slice none 0 0],[.slice none 0 0,.int .i64 0],rfl,⟨rfl,rfl⟩,⟨[.slice none 0 0],[.int .i64 0],rfl,⟨none,0,rfl,gB _,jz _,.inl rfl⟩,rfl⟩⟩⟩⟩⟩⟩⟩⟩⟩⟩⟩
structure LJ where
 Kind:Int
 Cols:Value
def oW:Rp LJ:=lI (co (rI .i64) rV) (fun x=>(x.Kind,x.Cols))
theorem Hu:gP oW 0 (rI .i64) (fun x y=>{x with Kind:=y}):=cN dU (fun _ _=>rfl)
theorem Ib:lQ oW 1 rV (fun x=>x.Cols):=(aK cB rfl)
def pZ(y:aS)(v1:Value):LJ:=⟨y.Kind,v1⟩
theorem ED: ∀S,oW.rc S [.int .i64 0,.slice none 0 0] (pZ ((⟨(0:Int),[]⟩:aS)) (aD none 0 0)):=fun _=>⟨[.int .i64 0],[.slice none 0 0],rfl,rfl,⟨rfl,rfl⟩⟩
structure LI where
 nodes:(List aw)
 kinds:(List (List Int))
 open_:(List Int)
 n:aw
 a_:(List Int)
 b:(List Int)
 result:Value
def ca:Rp LI:=lI (co (eX aA) (co (eX (eX (rI .i64))) (co (Qg:Rp (List Int)) (co aA (co (eX (rI .i64)) (co (eX (rI .i64)) rV)))))) (fun x=>(x.nodes,x.kinds,x.open_,x.n,x.a_,x.b,x.result))
theorem wO:lQ ca 3 aA (fun x=>x.n):=(dL (aK (aK (aK cB rfl) rfl) rfl))
theorem kR:lQ ca 15 (eX (rI .i64)) (fun x=>x.a_):=(dL (aK (aK (aK (aK cB rfl) rfl) rfl) rfl))
theorem Ia:lQ ca 16 (eX (rI .i64)) (fun x=>x.b):=(dL (aK (aK (aK (aK (aK cB rfl) rfl) rfl) rfl) rfl))
theorem ma:lQ ca 17 rV (fun x=>x.result):=(aK (aK (aK (aK (aK (aK cB rfl) rfl) rfl) rfl) rfl) rfl)
def cb(y:aq)(v6:Value):LI:=⟨y.nodes,y.kinds,y.open_,y.n,y.a_,y.b,v6⟩
structure DH where
 Plan:da
 c:bG
 kinds:Value
def iE:Rp DH:=lI (co ce (co bJ rV)) (fun x=>(x.Plan,x.c,x.kinds))
theorem Cw:gP iE 0 ce (fun x y=>{x with Plan:=y}):=cN dU (fun _ _=>rfl)
theorem Cv:gP iE 1 bJ (fun x y=>{x with c:=y}):=cN (bB dU rfl) (fun _ _=>rfl)
theorem De:lQ iE 2 rV (fun x=>x.kinds):=(aK (aK cB rfl) rfl)
def kH(y:ci)(v2:Value):DH:=⟨y.Plan,y.c,v2⟩
theorem FE: ∀S,iE.rc S [.slice none 0 0,.slice none 0 0,.slice none 0 0] (kH ((⟨(⟨[]⟩:da),(⟨[]⟩:bG),[]⟩:ci)) (aD none 0 0)):=fun _=>⟨[.slice none 0 0],[.slice none 0 0,.slice none 0 0],rfl,tK _,⟨[.slice none 0 0],[.slice none 0 0],rfl,oe _,⟨rfl,rfl⟩⟩⟩
structure IG where
 Nodes:Value
def m6:Rp IG:=lI rV (fun x=>(x.Nodes))
theorem o5:lQ m6 0 rV (fun x=>x.Nodes):=cB
def oH(y:eC)(v0:Value):IG:=⟨v0⟩
theorem IX: ∀S,m6.rc S [.slice none 0 0] (oH ((⟨[]⟩:eC)) (aD none 0 0)):=fun _=>⟨rfl,rfl⟩
theorem zI{S:SH}{cs:List Value}{y:bG}{v0:Value}{xs0:(List bU)}(k0:(eX cT).rc S [v0] xs0)(h:iF.rc S cs (jF y v0)):bJ.rc S cs ((⟨xs0⟩:bG)):=by
 have h0:=h
 exact(by rw [h0.1];exact k0)
theorem Dw{S:SH}{cs:List Value}{y:da}{v0:Value}{xs0:(List cL)}(k0:(eX bR).rc S [v0] xs0)(h:qY.rc S cs (sP y v0)):ce.rc S cs ((⟨xs0⟩:da)):=by
 have h0:=h
 exact(by rw [h0.1];exact k0)
theorem tt{S:SH}{cs:List Value}{y:bp}{v0:Value}{xs0:(List bD)}(k0:(eX aV).rc S [v0] xs0)(h:gG.rc S cs (gI y v0)):bn.rc S cs ((⟨xs0⟩:bp)):=by
 have h0:=h
 exact(by rw [h0.1];exact k0)
theorem zG{S:SH}{cs:List Value}{y:aw}{v8:Value}{v9:Value}{xs8:(List gm)}(k8:(eX dz).rc S [v8] xs8){xs9:(List bp)}(k9:(eX bn).rc S [v9] xs9)(h:gF.rc S cs (lY y v8 v9)):aA.rc S cs ((⟨y.Op,y.A,y.B,y.Table,y.Kinds,y.Left,y.Cond,y.Keys,xs8,xs9,y.Order,y.Limit⟩:aw)):=by
 obtain⟨a0,b0,e0,h0,a1,b1,e1,h1,a2,b2,e2,h2,a3,b3,e3,h3,a4,b4,e4,h4,a5,b5,e5,h5,a6,b6,e6,h6,a7,b7,e7,h7,a8,b8,e8,h8,a9,b9,e9,h9,a10,b10,e10,h10,h11⟩:=h
 exact⟨a0,b0,e0,h0,a1,b1,e1,h1,a2,b2,e2,h2,a3,b3,e3,h3,a4,b4,e4,h4,a5,b5,e5,h5,a6,b6,e6,h6,a7,b7,e7,h7,a8,b8,e8,(by rw [h8.1];exact k8),a9,b9,e9,(by rw [h9.1];exact k9),a10,b10,e10,h10,h11⟩
theorem BN{S:SH}{cs:List Value}{y:aw}{v9:Value}{xs9:(List bp)}(k9:(eX bn).rc S [v9] xs9)(h:lc.rc S cs (oI y v9)):aA.rc S cs ((⟨y.Op,y.A,y.B,y.Table,y.Kinds,y.Left,y.Cond,y.Keys,y.Aggs,xs9,y.Order,y.Limit⟩:aw)):=by
 obtain⟨a0,b0,e0,h0,a1,b1,e1,h1,a2,b2,e2,h2,a3,b3,e3,h3,a4,b4,e4,h4,a5,b5,e5,h5,a6,b6,e6,h6,a7,b7,e7,h7,a8,b8,e8,h8,a9,b9,e9,h9,a10,b10,e10,h10,h11⟩:=h
 exact⟨a0,b0,e0,h0,a1,b1,e1,h1,a2,b2,e2,h2,a3,b3,e3,h3,a4,b4,e4,h4,a5,b5,e5,h5,a6,b6,e6,h6,a7,b7,e7,h7,a8,b8,e8,h8,a9,b9,e9,(by rw [h9.1];exact k9),a10,b10,e10,h10,h11⟩
theorem Dv{S:SH}{cs:List Value}{y:aS}{v1:Value}{xs1:(List Int)}(k1:(eX (rI .i64)).rc S [v1] xs1)(h:oW.rc S cs (pZ y v1)):aR.rc S cs ((⟨y.Kind,xs1⟩:aS)):=by
 obtain⟨a0,b0,e0,h0,h1⟩:=h
 exact⟨a0,b0,e0,h0,(by rw [h1.1];exact k1)⟩
theorem iU{S:SH}{cs:List Value}{y:aq}{v6:Value}{xs6:(List Int)}(k6:(eX (rI .i64)).rc S [v6] xs6)(h:ca.rc S cs (cb y v6)):bC.rc S cs ((⟨y.nodes,y.kinds,y.open_,y.n,y.a_,y.b,xs6⟩:aq)):=by
 obtain⟨a0,b0,e0,h0,a1,b1,e1,h1,a2,b2,e2,h2,a3,b3,e3,h3,a4,b4,e4,h4,a5,b5,e5,h5,h6⟩:=h
 exact⟨a0,b0,e0,h0,a1,b1,e1,h1,a2,b2,e2,h2,a3,b3,e3,h3,a4,b4,e4,h4,a5,b5,e5,h5,(by rw [h6.1];exact k6)⟩
theorem qK{S:SH}{cs:List Value}{y:ci}{v2:Value}{xs2:(List (List (List Int)))}(k2:(eX (eX (eX (rI .i64)))).rc S [v2] xs2)(h:iE.rc S cs (kH y v2)):ie.rc S cs ((⟨y.Plan,y.c,xs2⟩:ci)):=by
 obtain⟨a0,b0,e0,h0,a1,b1,e1,h1,h2⟩:=h
 exact⟨a0,b0,e0,h0,a1,b1,e1,h1,(by rw [h2.1];exact k2)⟩
theorem BM{S:SH}{cs:List Value}{y:eC}{v0:Value}{xs0:(List aw)}(k0:(eX aA).rc S [v0] xs0)(h:m6.rc S cs (oH y v0)):qk.rc S cs ((⟨xs0⟩:eC)):=by
 have h0:=h
 exact(by rw [h0.1];exact k0)
theorem sl(y:bp)(u:Value)(v:Value):pe gG gG 0 rV (gI y u) v (gI y v):=sv (iX rfl) rfl
theorem ye(y:aw)(v:Value):pe aA CH 8 rV (y) v (C5 y v):=sv (d6 (d6 (d6 (d6 (d6 (d6 (d6 (d6 (FT (iX rfl) rfl) rfl) rfl) rfl) rfl) rfl) rfl) rfl) rfl) rfl
theorem vn(y:aw)(v8:Value)(v:Value):pe CH gF 9 rV (C5 y v8) v (lY y v8 v):=sv (d6 (d6 (d6 (d6 (d6 (d6 (d6 (d6 (d6 (FT (iX rfl) rfl) rfl) rfl) rfl) rfl) rfl) rfl) rfl) rfl) rfl) rfl
theorem wv(y:aw)(u:Value)(v:Value):pe lc lc 9 rV (oI y u) v (oI y v):=sv (d6 (d6 (d6 (d6 (d6 (d6 (d6 (d6 (d6 (FT (iX rfl) rfl) rfl) rfl) rfl) rfl) rfl) rfl) rfl) rfl) rfl) rfl
theorem xz(y:aS)(u:Value)(v:Value):pe oW oW 1 rV (pZ y u) v (pZ y v):=sv (d6 (iX rfl) rfl) rfl
theorem lT(y:aq)(v:Value):pe bC ca 17 rV (y) v (cb y v):=sv (d6 (d6 (d6 (d6 (d6 (d6 (iX rfl) rfl) rfl) rfl) rfl) rfl) rfl) rfl
theorem iW(y:aq)(u:Value)(v:Value):pe ca ca 17 rV (cb y u) v (cb y v):=sv (d6 (d6 (d6 (d6 (d6 (d6 (iX rfl) rfl) rfl) rfl) rfl) rfl) rfl) rfl
theorem vm(y:ci)(u:Value)(v:Value):pe iE iE 2 rV (kH y u) v (kH y v):=sv (d6 (d6 (iX rfl) rfl) rfl) rfl
theorem rJ(y:eC)(u:Value)(v:Value):pe m6 m6 0 rV (oH y u) v (oH y v):=sv (iX rfl) rfl
def eW(b:Nat)(x:aq)(i:OI):List OE:=[bx (rH bC [(1,aD (i.h 0).1 (i.h 0).2 x.kinds.length),(2,aD (i.h 1).1 (i.h 1).2 x.open_.length)]) 124 b x,jx (eX (rI .i64)) 29 (i.h 0).1 (i.h 0).2 x.kinds,cY (rI .i64) 3 (i.h 1).1 (i.h 1).2 x.open_]
def TH(b:Nat)(x:aq)(i:OI):List OE:=[bx (rH ca [(1,aD (i.h 0).1 (i.h 0).2 x.kinds.length),(2,aD (i.h 1).1 (i.h 1).2 x.open_.length)]) 124 b (cb x (aD (i.h 2).1 (i.h 2).2 x.result.length)),jx (eX (rI .i64)) 29 (i.h 0).1 (i.h 0).2 x.kinds,cY (rI .i64) 3 (i.h 1).1 (i.h 1).2 x.open_,cY (rI .i64) 3 (i.h 2).1 (i.h 2).2 x.result]
def TU:(List DQ):=[(⟨[98,111,111,108],(1:Int)⟩:DQ),(⟨[105,110,116],(2:Int)⟩:DQ),(⟨[116,101,120,116],(3:Int)⟩:DQ)]
theorem gm0:((0:Nat),([.string ⟨([98,111,111,108]:List UInt8).toArray⟩,.int .i64 (1),.string ⟨([105,110,116]:List UInt8).toArray⟩,.int .i64 (2),.string ⟨([116,101,120,116]:List UInt8).toArray⟩,.int .i64 (3)]:List Value))∈glob:=by simp [glob]
theorem gr0: ∀S,(pH vv 3).rc S ([.string ⟨([98,111,111,108]:List UInt8).toArray⟩,.int .i64 (1),.string ⟨([105,110,116]:List UInt8).toArray⟩,.int .i64 (2),.string ⟨([116,101,120,116]:List UInt8).toArray⟩,.int .i64 (3)]:List Value) TU:=fun _=>⟨rfl,⟨[.string ⟨([98,111,111,108]:List UInt8).toArray⟩,.int .i64 (1)],[.string ⟨([105,110,116]:List UInt8).toArray⟩,.int .i64 (2),.string ⟨([116,101,120,116]:List UInt8).toArray⟩,.int .i64 (3)],rfl,⟨[.string ⟨([98,111,111,108]:List UInt8).toArray⟩],[.int .i64 (1)],rfl,rfl,rfl⟩,⟨[.string ⟨([105,110,116]:List UInt8).toArray⟩,.int .i64 (2)],[.string ⟨([116,101,120,116]:List UInt8).toArray⟩,.int .i64 (3)],rfl,⟨[.string ⟨([105,110,116]:List UInt8).toArray⟩],[.int .i64 (2)],rfl,rfl,rfl⟩,⟨[.string ⟨([116,101,120,116]:List UInt8).toArray⟩,.int .i64 (3)],[],rfl,⟨[.string ⟨([116,101,120,116]:List UInt8).toArray⟩],[.int .i64 (3)],rfl,rfl,rfl⟩,(rfl:_=[])⟩⟩⟩⟩
def VF:(List iZ):=[[83,69,76,69,67,84],[68,73,83,84,73,78,67,84],[70,82,79,77],[76,69,70,84],[74,79,73,78],[79,78],[87,72,69,82,69],[71,82,79,85,80],[66,89],[72,65,86,73,78,71],[85,78,73,79,78],[65,76,76],[79,82,68,69,82],[76,73,77,73,84],[65,83,67],[68,69,83,67],[65,83],[65,78,68],[79,82],[78,79,84],[73,83],[78,85,76,76],[84,82,85,69],[70,65,76,83,69],[67,79,85,78,84],[83,85,77],[77,73,78],[77,65,88]]
theorem gm2:((2:Nat),([.string ⟨([83,69,76,69,67,84]:List UInt8).toArray⟩,.string ⟨([68,73,83,84,73,78,67,84]:List UInt8).toArray⟩,.string ⟨([70,82,79,77]:List UInt8).toArray⟩,.string ⟨([76,69,70,84]:List UInt8).toArray⟩,.string ⟨([74,79,73,78]:List UInt8).toArray⟩,.string ⟨([79,78]:List UInt8).toArray⟩,.string ⟨([87,72,69,82,69]:List UInt8).toArray⟩,.string ⟨([71,82,79,85,80]:List UInt8).toArray⟩,.string ⟨([66,89]:List UInt8).toArray⟩,.string ⟨([72,65,86,73,78,71]:List UInt8).toArray⟩,.string ⟨([85,78,73,79,78]:List UInt8).toArray⟩,.string ⟨([65,76,76]:List UInt8).toArray⟩,.string ⟨([79,82,68,69,82]:List UInt8).toArray⟩,.string ⟨([76,73,77,73,84]:List UInt8).toArray⟩,.string ⟨([65,83,67]:List UInt8).toArray⟩,.string ⟨([68,69,83,67]:List UInt8).toArray⟩,.string ⟨([65,83]:List UInt8).toArray⟩,.string ⟨([65,78,68]:List UInt8).toArray⟩,.string ⟨([79,82]:List UInt8).toArray⟩,.string ⟨([78,79,84]:List UInt8).toArray⟩,.string ⟨([73,83]:List UInt8).toArray⟩,.string ⟨([78,85,76,76]:List UInt8).toArray⟩,.string ⟨([84,82,85,69]:List UInt8).toArray⟩,.string ⟨([70,65,76,83,69]:List UInt8).toArray⟩,.string ⟨([67,79,85,78,84]:List UInt8).toArray⟩,.string ⟨([83,85,77]:List UInt8).toArray⟩,.string ⟨([77,73,78]:List UInt8).toArray⟩,.string ⟨([77,65,88]:List UInt8).toArray⟩]:List Value))∈glob:=by simp [glob]
theorem gr2: ∀S,(pH rS 28).rc S ([.string ⟨([83,69,76,69,67,84]:List UInt8).toArray⟩,.string ⟨([68,73,83,84,73,78,67,84]:List UInt8).toArray⟩,.string ⟨([70,82,79,77]:List UInt8).toArray⟩,.string ⟨([76,69,70,84]:List UInt8).toArray⟩,.string ⟨([74,79,73,78]:List UInt8).toArray⟩,.string ⟨([79,78]:List UInt8).toArray⟩,.string ⟨([87,72,69,82,69]:List UInt8).toArray⟩,.string ⟨([71,82,79,85,80]:List UInt8).toArray⟩,.string ⟨([66,89]:List UInt8).toArray⟩,.string ⟨([72,65,86,73,78,71]:List UInt8).toArray⟩,.string ⟨([85,78,73,79,78]:List UInt8).toArray⟩,.string ⟨([65,76,76]:List UInt8).toArray⟩,.string ⟨([79,82,68,69,82]:List UInt8).toArray⟩,.string ⟨([76,73,77,73,84]:List UInt8).toArray⟩,.string ⟨([65,83,67]:List UInt8).toArray⟩,.string ⟨([68,69,83,67]:List UInt8).toArray⟩,.string ⟨([65,83]:List UInt8).toArray⟩,.string ⟨([65,78,68]:List UInt8).toArray⟩,.string ⟨([79,82]:List UInt8).toArray⟩,.string ⟨([78,79,84]:List UInt8).toArray⟩,.string ⟨([73,83]:List UInt8).toArray⟩,.string ⟨([78,85,76,76]:List UInt8).toArray⟩,.string ⟨([84,82,85,69]:List UInt8).toArray⟩,.string ⟨([70,65,76,83,69]:List UInt8).toArray⟩,.string ⟨([67,79,85,78,84]:List UInt8).toArray⟩,.string ⟨([83,85,77]:List UInt8).toArray⟩,.string ⟨([77,73,78]:List UInt8).toArray⟩,.string ⟨([77,65,88]:List UInt8).toArray⟩]:List Value) VF:=fun _=>⟨rfl,⟨[.string ⟨([83,69,76,69,67,84]:List UInt8).toArray⟩],[.string ⟨([68,73,83,84,73,78,67,84]:List UInt8).toArray⟩,.string ⟨([70,82,79,77]:List UInt8).toArray⟩,.string ⟨([76,69,70,84]:List UInt8).toArray⟩,.string ⟨([74,79,73,78]:List UInt8).toArray⟩,.string ⟨([79,78]:List UInt8).toArray⟩,.string ⟨([87,72,69,82,69]:List UInt8).toArray⟩,.string ⟨([71,82,79,85,80]:List UInt8).toArray⟩,.string ⟨([66,89]:List UInt8).toArray⟩,.string ⟨([72,65,86,73,78,71]:List UInt8).toArray⟩,.string ⟨([85,78,73,79,78]:List UInt8).toArray⟩,.string ⟨([65,76,76]:List UInt8).toArray⟩,.string ⟨([79,82,68,69,82]:List UInt8).toArray⟩,.string ⟨([76,73,77,73,84]:List UInt8).toArray⟩,.string ⟨([65,83,67]:List UInt8).toArray⟩,.string ⟨([68,69,83,67]:List UInt8).toArray⟩,.string ⟨([65,83]:List UInt8).toArray⟩,.string ⟨([65,78,68]:List UInt8).toArray⟩,.string ⟨([79,82]:List UInt8).toArray⟩,.string ⟨([78,79,84]:List UInt8).toArray⟩,.string ⟨([73,83]:List UInt8).toArray⟩,.string ⟨([78,85,76,76]:List UInt8).toArray⟩,.string ⟨([84,82,85,69]:List UInt8).toArray⟩,.string ⟨([70,65,76,83,69]:List UInt8).toArray⟩,.string ⟨([67,79,85,78,84]:List UInt8).toArray⟩,.string ⟨([83,85,77]:List UInt8).toArray⟩,.string ⟨([77,73,78]:List UInt8).toArray⟩,.string ⟨([77,65,88]:List UInt8).toArray⟩],rfl,rfl,⟨[.string ⟨([68,73,83,84,73,78,67,84]:List UInt8).toArray⟩],[.string ⟨([70,82,79,77]:List UInt8).toArray⟩,.string ⟨([76,69,70,84]:List UInt8).toArray⟩,.string ⟨([74,79,73,78]:List UInt8).toArray⟩,.string ⟨([79,78]:List UInt8).toArray⟩,.string ⟨([87,72,69,82,69]:List UInt8).toArray⟩,.string ⟨([71,82,79,85,80]:List UInt8).toArray⟩,.string ⟨([66,89]:List UInt8).toArray⟩,.string ⟨([72,65,86,73,78,71]:List UInt8).toArray⟩,.string ⟨([85,78,73,79,78]:List UInt8).toArray⟩,.string ⟨([65,76,76]:List UInt8).toArray⟩,.string ⟨([79,82,68,69,82]:List UInt8).toArray⟩,.string ⟨([76,73,77,73,84]:List UInt8).toArray⟩,.string ⟨([65,83,67]:List UInt8).toArray⟩,.string ⟨([68,69,83,67]:List UInt8).toArray⟩,.string ⟨([65,83]:List UInt8).toArray⟩,.string ⟨([65,78,68]:List UInt8).toArray⟩,.string ⟨([79,82]:List UInt8).toArray⟩,.string ⟨([78,79,84]:List UInt8).toArray⟩,.string ⟨([73,83]:List UInt8).toArray⟩,.string ⟨([78,85,76,76]:List UInt8).toArray⟩,.string ⟨([84,82,85,69]:List UInt8).toArray⟩,.string ⟨([70,65,76,83,69]:List UInt8).toArray⟩,.string ⟨([67,79,85,78,84]:List UInt8).toArray⟩,.string ⟨([83,85,77]:List UInt8).toArray⟩,.string ⟨([77,73,78]:List UInt8).toArray⟩,.string ⟨([77,65,88]:List UInt8).toArray⟩],rfl,rfl,⟨[.string ⟨([70,82,79,77]:List UInt8).toArray⟩],[.string ⟨([76,69,70,84]:List UInt8).toArray⟩,.string ⟨([74,79,73,78]:List UInt8).toArray⟩,.string ⟨([79,78]:List UInt8).toArray⟩,.string ⟨([87,72,69,82,69]:List UInt8).toArray⟩,.string ⟨([71,82,79,85,80]:List UInt8).toArray⟩,.string ⟨([66,89]:List UInt8).toArray⟩,.string ⟨([72,65,86,73,78,71]:List UInt8).toArray⟩,.string ⟨([85,78,73,79,78]:List UInt8).toArray⟩,.string ⟨([65,76,76]:List UInt8).toArray⟩,.string ⟨([79,82,68,69,82]:List UInt8).toArray⟩,.string ⟨([76,73,77,73,84]:List UInt8).toArray⟩,.string ⟨([65,83,67]:List UInt8).toArray⟩,.string ⟨([68,69,83,67]:List UInt8).toArray⟩,.string ⟨([65,83]:List UInt8).toArray⟩,.string ⟨([65,78,68]:List UInt8).toArray⟩,.string ⟨([79,82]:List UInt8).toArray⟩,.string ⟨([78,79,84]:List UInt8).toArray⟩,.string ⟨([73,83]:List UInt8).toArray⟩,.string ⟨([78,85,76,76]:List UInt8).toArray⟩,.string ⟨([84,82,85,69]:List UInt8).toArray⟩,.string ⟨([70,65,76,83,69]:List UInt8).toArray⟩,.string ⟨([67,79,85,78,84]:List UInt8).toArray⟩,.string ⟨([83,85,77]:List UInt8).toArray⟩,.string ⟨([77,73,78]:List UInt8).toArray⟩,.string ⟨([77,65,88]:List UInt8).toArray⟩],rfl,rfl,⟨[.string ⟨([76,69,70,84]:List UInt8).toArray⟩],[.string ⟨([74,79,73,78]:List UInt8).toArray⟩,.string ⟨([79,78]:List UInt8).toArray⟩,.string ⟨([87,72,69,82,69]:List UInt8).toArray⟩,.string ⟨([71,82,79,85,80]:List UInt8).toArray⟩,.string ⟨([66,89]:List UInt8).toArray⟩,.string ⟨([72,65,86,73,78,71]:List UInt8).toArray⟩,.string ⟨([85,78,73,79,78]:List UInt8).toArray⟩,.string ⟨([65,76,76]:List UInt8).toArray⟩,.string ⟨([79,82,68,69,82]:List UInt8).toArray⟩,.string ⟨([76,73,77,73,84]:List UInt8).toArray⟩,.string ⟨([65,83,67]:List UInt8).toArray⟩,.string ⟨([68,69,83,67]:List UInt8).toArray⟩,.string ⟨([65,83]:List UInt8).toArray⟩,.string ⟨([65,78,68]:List UInt8).toArray⟩,.string ⟨([79,82]:List UInt8).toArray⟩,.string ⟨([78,79,84]:List UInt8).toArray⟩,.string ⟨([73,83]:List UInt8).toArray⟩,.string ⟨([78,85,76,76]:List UInt8).toArray⟩,.string ⟨([84,82,85,69]:List UInt8).toArray⟩,.string ⟨([70,65,76,83,69]:List UInt8).toArray⟩,.string ⟨([67,79,85,78,84]:List UInt8).toArray⟩,.string ⟨([83,85,77]:List UInt8).toArray⟩,.string ⟨([77,73,78]:List UInt8).toArray⟩,.string ⟨([77,65,88]:List UInt8).toArray⟩],rfl,rfl,⟨[.string ⟨([74,79,73,78]:List UInt8).toArray⟩],[.string ⟨([79,78]:List UInt8).toArray⟩,.string ⟨([87,72,69,82,69]:List UInt8).toArray⟩,.string ⟨([71,82,79,85,80]:List UInt8).toArray⟩,.string ⟨([66,89]:List UInt8).toArray⟩,.string ⟨([72,65,86,73,78,71]:List UInt8).toArray⟩,.string ⟨([85,78,73,79,78]:List UInt8).toArray⟩,.string ⟨([65,76,76]:List UInt8).toArray⟩,.string ⟨([79,82,68,69,82]:List UInt8).toArray⟩,.string ⟨([76,73,77,73,84]:List UInt8).toArray⟩,.string ⟨([65,83,67]:List UInt8).toArray⟩,.string ⟨([68,69,83,67]:List UInt8).toArray⟩,.string ⟨([65,83]:List UInt8).toArray⟩,.string ⟨([65,78,68]:List UInt8).toArray⟩,.string ⟨([79,82]:List UInt8).toArray⟩,.string ⟨([78,79,84]:List UInt8).toArray⟩,.string ⟨([73,83]:List UInt8).toArray⟩,.string ⟨([78,85,76,76]:List UInt8).toArray⟩,.string ⟨([84,82,85,69]:List UInt8).toArray⟩,.string ⟨([70,65,76,83,69]:List UInt8).toArray⟩,.string ⟨([67,79,85,78,84]:List UInt8).toArray⟩,.string ⟨([83,85,77]:List UInt8).toArray⟩,.string ⟨([77,73,78]:List UInt8).toArray⟩,.string ⟨([77,65,88]:List UInt8).toArray⟩],rfl,rfl,⟨[.string ⟨([79,78]:List UInt8).toArray⟩],[.string ⟨([87,72,69,82,69]:List UInt8).toArray⟩,.string ⟨([71,82,79,85,80]:List UInt8).toArray⟩,.string ⟨([66,89]:List UInt8).toArray⟩,.string ⟨([72,65,86,73,78,71]:List UInt8).toArray⟩,.string ⟨([85,78,73,79,78]:List UInt8).toArray⟩,.string ⟨([65,76,76]:List UInt8).toArray⟩,.string ⟨([79,82,68,69,82]:List UInt8).toArray⟩,.string ⟨([76,73,77,73,84]:List UInt8).toArray⟩,.string ⟨([65,83,67]:List UInt8).toArray⟩,.string ⟨([68,69,83,67]:List UInt8).toArray⟩,.string ⟨([65,83]:List UInt8).toArray⟩,.string ⟨([65,78,68]:List UInt8).toArray⟩,.string ⟨([79,82]:List UInt8).toArray⟩,.string ⟨([78,79,84]:List UInt8).toArray⟩,.string ⟨([73,83]:List UInt8).toArray⟩,.string ⟨([78,85,76,76]:List UInt8).toArray⟩,.string ⟨([84,82,85,69]:List UInt8).toArray⟩,.string ⟨([70,65,76,83,69]:List UInt8).toArray⟩,.string ⟨([67,79,85,78,84]:List UInt8).toArray⟩,.string ⟨([83,85,77]:List UInt8).toArray⟩,.string ⟨([77,73,78]:List UInt8).toArray⟩,.string ⟨([77,65,88]:List UInt8).toArray⟩],rfl,rfl,⟨[.string ⟨([87,72,69,82,69]:List UInt8).toArray⟩],[.string ⟨([71,82,79,85,80]:List UInt8).toArray⟩,.string ⟨([66,89]:List UInt8).toArray⟩,.string ⟨([72,65,86,73,78,71]:List UInt8).toArray⟩,.string ⟨([85,78,73,79,78]:List UInt8).toArray⟩,.string ⟨([65,76,76]:List UInt8).toArray⟩,.string ⟨([79,82,68,69,82]:List UInt8).toArray⟩,.string ⟨([76,73,77,73,84]:List UInt8).toArray⟩,.string ⟨([65,83,67]:List UInt8).toArray⟩,.string ⟨([68,69,83,67]:List UInt8).toArray⟩,.string ⟨([65,83]:List UInt8).toArray⟩,.string ⟨([65,78,68]:List UInt8).toArray⟩,.string ⟨([79,82]:List UInt8).toArray⟩,.string ⟨([78,79,84]:List UInt8).toArray⟩,.string ⟨([73,83]:List UInt8).toArray⟩,.string ⟨([78,85,76,76]:List UInt8).toArray⟩,.string ⟨([84,82,85,69]:List UInt8).toArray⟩,.string ⟨([70,65,76,83,69]:List UInt8).toArray⟩,.string ⟨([67,79,85,78,84]:List UInt8).toArray⟩,.string ⟨([83,85,77]:List UInt8).toArray⟩,.string ⟨([77,73,78]:List UInt8).toArray⟩,.string ⟨([77,65,88]:List UInt8).toArray⟩],rfl,rfl,⟨[.string ⟨([71,82,79,85,80]:List UInt8).toArray⟩],[.string ⟨([66,89]:List UInt8).toArray⟩,.string ⟨([72,65,86,73,78,71]:List UInt8).toArray⟩,.string ⟨([85,78,73,79,78]:List UInt8).toArray⟩,.string ⟨([65,76,76]:List UInt8).toArray⟩,.string ⟨([79,82,68,69,82]:List UInt8).toArray⟩,.string ⟨([76,73,77,73,84]:List UInt8).toArray⟩,.string ⟨([65,83,67]:List UInt8).toArray⟩,.string ⟨([68,69,83,67]:List UInt8).toArray⟩,.string ⟨([65,83]:List UInt8).toArray⟩,.string ⟨([65,78,68]:List UInt8).toArray⟩,.string ⟨([79,82]:List UInt8).toArray⟩,.string ⟨([78,79,84]:List UInt8).toArray⟩,.string ⟨([73,83]:List UInt8).toArray⟩,.string ⟨([78,85,76,76]:List UInt8).toArray⟩,.string ⟨([84,82,85,69]:List UInt8).toArray⟩,.string ⟨([70,65,76,83,69]:List UInt8).toArray⟩,.string ⟨([67,79,85,78,84]:List UInt8).toArray⟩,.string ⟨([83,85,77]:List UInt8).toArray⟩,.string ⟨([77,73,78]:List UInt8).toArray⟩,.string ⟨([77,65,88]:List UInt8).toArray⟩],rfl,rfl,⟨[.string ⟨([66,89]:List UInt8).toArray⟩],[.string ⟨([72,65,86,73,78,71]:List UInt8).toArray⟩,.string ⟨([85,78,73,79,78]:List UInt8).toArray⟩,.string ⟨([65,76,76]:List UInt8).toArray⟩,.string ⟨([79,82,68,69,82]:List UInt8).toArray⟩,.string ⟨([76,73,77,73,84]:List UInt8).toArray⟩,.string ⟨([65,83,67]:List UInt8).toArray⟩,.string ⟨([68,69,83,67]:List UInt8).toArray⟩,.string ⟨([65,83]:List UInt8).toArray⟩,.string ⟨([65,78,68]:List UInt8).toArray⟩,.string ⟨([79,82]:List UInt8).toArray⟩,.string ⟨([78,79,84]:List UInt8).toArray⟩,.string ⟨([73,83]:List UInt8).toArray⟩,.string ⟨([78,85,76,76]:List UInt8).toArray⟩,.string ⟨([84,82,85,69]:List UInt8).toArray⟩,.string ⟨([70,65,76,83,69]:List UInt8).toArray⟩,.string ⟨([67,79,85,78,84]:List UInt8).toArray⟩,.string ⟨([83,85,77]:List UInt8).toArray⟩,.string ⟨([77,73,78]:List UInt8).toArray⟩,.string ⟨([77,65,88]:List UInt8).toArray⟩],rfl,rfl,⟨[.string ⟨([72,65,86,73,78,71]:List UInt8).toArray⟩],[.string ⟨([85,78,73,79,78]:List UInt8).toArray⟩,.string ⟨([65,76,76]:List UInt8).toArray⟩,.string ⟨([79,82,68,69,82]:List UInt8).toArray⟩,.string ⟨([76,73,77,73,84]:List UInt8).toArray⟩,.string ⟨([65,83,67]:List UInt8).toArray⟩,.string ⟨([68,69,83,67]:List UInt8).toArray⟩,.string ⟨([65,83]:List UInt8).toArray⟩,.string ⟨([65,78,68]:List UInt8).toArray⟩,.string ⟨([79,82]:List UInt8).toArray⟩,.string ⟨([78,79,84]:List UInt8).toArray⟩,.string ⟨([73,83]:List UInt8).toArray⟩,.string ⟨([78,85,76,76]:List UInt8).toArray⟩,.string ⟨([84,82,85,69]:List UInt8).toArray⟩,.string ⟨([70,65,76,83,69]:List UInt8).toArray⟩,.string ⟨([67,79,85,78,84]:List UInt8).toArray⟩,.string ⟨([83,85,77]:List UInt8).toArray⟩,.string ⟨([77,73,78]:List UInt8).toArray⟩,.string ⟨([77,65,88]:List UInt8).toArray⟩],rfl,rfl,⟨[.string ⟨([85,78,73,79,78]:List UInt8).toArray⟩],[.string ⟨([65,76,76]:List UInt8).toArray⟩,.string ⟨([79,82,68,69,82]:List UInt8).toArray⟩,.string ⟨([76,73,77,73,84]:List UInt8).toArray⟩,.string ⟨([65,83,67]:List UInt8).toArray⟩,.string ⟨([68,69,83,67]:List UInt8).toArray⟩,.string ⟨([65,83]:List UInt8).toArray⟩,.string ⟨([65,78,68]:List UInt8).toArray⟩,.string ⟨([79,82]:List UInt8).toArray⟩,.string ⟨([78,79,84]:List UInt8).toArray⟩,.string ⟨([73,83]:List UInt8).toArray⟩,.string ⟨([78,85,76,76]:List UInt8).toArray⟩,.string ⟨([84,82,85,69]:List UInt8).toArray⟩,.string ⟨([70,65,76,83,69]:List UInt8).toArray⟩,.string ⟨([67,79,85,78,84]:List UInt8).toArray⟩,.string ⟨([83,85,77]:List UInt8).toArray⟩,.string ⟨([77,73,78]:List UInt8).toArray⟩,.string ⟨([77,65,88]:List UInt8).toArray⟩],rfl,rfl,⟨[.string ⟨([65,76,76]:List UInt8).toArray⟩],[.string ⟨([79,82,68,69,82]:List UInt8).toArray⟩,.string ⟨([76,73,77,73,84]:List UInt8).toArray⟩,.string ⟨([65,83,67]:List UInt8).toArray⟩,.string ⟨([68,69,83,67]:List UInt8).toArray⟩,.string ⟨([65,83]:List UInt8).toArray⟩,.string ⟨([65,78,68]:List UInt8).toArray⟩,.string ⟨([79,82]:List UInt8).toArray⟩,.string ⟨([78,79,84]:List UInt8).toArray⟩,.string ⟨([73,83]:List UInt8).toArray⟩,.string ⟨([78,85,76,76]:List UInt8).toArray⟩,.string ⟨([84,82,85,69]:List UInt8).toArray⟩,.string ⟨([70,65,76,83,69]:List UInt8).toArray⟩,.string ⟨([67,79,85,78,84]:List UInt8).toArray⟩,.string ⟨([83,85,77]:List UInt8).toArray⟩,.string ⟨([77,73,78]:List UInt8).toArray⟩,.string ⟨([77,65,88]:List UInt8).toArray⟩],rfl,rfl,⟨[.string ⟨([79,82,68,69,82]:List UInt8).toArray⟩],[.string ⟨([76,73,77,73,84]:List UInt8).toArray⟩,.string ⟨([65,83,67]:List UInt8).toArray⟩,.string ⟨([68,69,83,67]:List UInt8).toArray⟩,.string ⟨([65,83]:List UInt8).toArray⟩,.string ⟨([65,78,68]:List UInt8).toArray⟩,.string ⟨([79,82]:List UInt8).toArray⟩,.string ⟨([78,79,84]:List UInt8).toArray⟩,.string ⟨([73,83]:List UInt8).toArray⟩,.string ⟨([78,85,76,76]:List UInt8).toArray⟩,.string ⟨([84,82,85,69]:List UInt8).toArray⟩,.string ⟨([70,65,76,83,69]:List UInt8).toArray⟩,.string ⟨([67,79,85,78,84]:List UInt8).toArray⟩,.string ⟨([83,85,77]:List UInt8).toArray⟩,.string ⟨([77,73,78]:List UInt8).toArray⟩,.string ⟨([77,65,88]:List UInt8).toArray⟩],rfl,rfl,⟨[.string ⟨([76,73,77,73,84]:List UInt8).toArray⟩],[.string ⟨([65,83,67]:List UInt8).toArray⟩,.string ⟨([68,69,83,67]:List UInt8).toArray⟩,.string ⟨([65,83]:List UInt8).toArray⟩,.string ⟨([65,78,68]:List UInt8).toArray⟩,.string ⟨([79,82]:List UInt8).toArray⟩,.string ⟨([78,79,84]:List UInt8).toArray⟩,.string ⟨([73,83]:List UInt8).toArray⟩,.string ⟨([78,85,76,76]:List UInt8).toArray⟩,.string ⟨([84,82,85,69]:List UInt8).toArray⟩,.string ⟨([70,65,76,83,69]:List UInt8).toArray⟩,.string ⟨([67,79,85,78,84]:List UInt8).toArray⟩,.string ⟨([83,85,77]:List UInt8).toArray⟩,.string ⟨([77,73,78]:List UInt8).toArray⟩,.string ⟨([77,65,88]:List UInt8).toArray⟩],rfl,rfl,⟨[.string ⟨([65,83,67]:List UInt8).toArray⟩],[.string ⟨([68,69,83,67]:List UInt8).toArray⟩,.string ⟨([65,83]:List UInt8).toArray⟩,.string ⟨([65,78,68]:List UInt8).toArray⟩,.string ⟨([79,82]:List UInt8).toArray⟩,.string ⟨([78,79,84]:List UInt8).toArray⟩,.string ⟨([73,83]:List UInt8).toArray⟩,.string ⟨([78,85,76,76]:List UInt8).toArray⟩,.string ⟨([84,82,85,69]:List UInt8).toArray⟩,.string ⟨([70,65,76,83,69]:List UInt8).toArray⟩,.string ⟨([67,79,85,78,84]:List UInt8).toArray⟩,.string ⟨([83,85,77]:List UInt8).toArray⟩,.string ⟨([77,73,78]:List UInt8).toArray⟩,.string ⟨([77,65,88]:List UInt8).toArray⟩],rfl,rfl,⟨[.string ⟨([68,69,83,67]:List UInt8).toArray⟩],[.string ⟨([65,83]:List UInt8).toArray⟩,.string ⟨([65,78,68]:List UInt8).toArray⟩,.string ⟨([79,82]:List UInt8).toArray⟩,.string ⟨([78,79,84]:List UInt8).toArray⟩,.string ⟨([73,83]:List UInt8).toArray⟩,.string ⟨([78,85,76,76]:List UInt8).toArray⟩,.string ⟨([84,82,85,69]:List UInt8).toArray⟩,.string ⟨([70,65,76,83,69]:List UInt8).toArray⟩,.string ⟨([67,79,85,78,84]:List UInt8).toArray⟩,.string ⟨([83,85,77]:List UInt8).toArray⟩,.string ⟨([77,73,78]:List UInt8).toArray⟩,.string ⟨([77,65,88]:List UInt8).toArray⟩],rfl,rfl,⟨[.string ⟨([65,83]:List UInt8).toArray⟩],[.string ⟨([65,78,68]:List UInt8).toArray⟩,.string ⟨([79,82]:List UInt8).toArray⟩,.string ⟨([78,79,84]:List UInt8).toArray⟩,.string ⟨([73,83]:List UInt8).toArray⟩,.string ⟨([78,85,76,76]:List UInt8).toArray⟩,.string ⟨([84,82,85,69]:List UInt8).toArray⟩,.string ⟨([70,65,76,83,69]:List UInt8).toArray⟩,.string ⟨([67,79,85,78,84]:List UInt8).toArray⟩,.string ⟨([83,85,77]:List UInt8).toArray⟩,.string ⟨([77,73,78]:List UInt8).toArray⟩,.string ⟨([77,65,88]:List UInt8).toArray⟩],rfl,rfl,⟨[.string ⟨([65,78,68]:List UInt8).toArray⟩],[.string ⟨([79,82]:List UInt8).toArray⟩,.string ⟨([78,79,84]:List UInt8).toArray⟩,.string ⟨([73,83]:List UInt8).toArray⟩,.string ⟨([78,85,76,76]:List UInt8).toArray⟩,.string ⟨([84,82,85,69]:List UInt8).toArray⟩,.string ⟨([70,65,76,83,69]:List UInt8).toArray⟩,.string ⟨([67,79,85,78,84]:List UInt8).toArray⟩,.string ⟨([83,85,77]:List UInt8).toArray⟩,.string ⟨([77,73,78]:List UInt8).toArray⟩,.string ⟨([77,65,88]:List UInt8).toArray⟩],rfl,rfl,⟨[.string ⟨([79,82]:List UInt8).toArray⟩],[.string ⟨([78,79,84]:List UInt8).toArray⟩,.string ⟨([73,83]:List UInt8).toArray⟩,.string ⟨([78,85,76,76]:List UInt8).toArray⟩,.string ⟨([84,82,85,69]:List UInt8).toArray⟩,.string ⟨([70,65,76,83,69]:List UInt8).toArray⟩,.string ⟨([67,79,85,78,84]:List UInt8).toArray⟩,.string ⟨([83,85,77]:List UInt8).toArray⟩,.string ⟨([77,73,78]:List UInt8).toArray⟩,.string ⟨([77,65,88]:List UInt8).toArray⟩],rfl,rfl,⟨[.string ⟨([78,79,84]:List UInt8).toArray⟩],[.string ⟨([73,83]:List UInt8).toArray⟩,.string ⟨([78,85,76,76]:List UInt8).toArray⟩,.string ⟨([84,82,85,69]:List UInt8).toArray⟩,.string ⟨([70,65,76,83,69]:List UInt8).toArray⟩,.string ⟨([67,79,85,78,84]:List UInt8).toArray⟩,.string ⟨([83,85,77]:List UInt8).toArray⟩,.string ⟨([77,73,78]:List UInt8).toArray⟩,.string ⟨([77,65,88]:List UInt8).toArray⟩],rfl,rfl,⟨[.string ⟨([73,83]:List UInt8).toArray⟩],[.string ⟨([78,85,76,76]:List UInt8).toArray⟩,.string ⟨([84,82,85,69]:List UInt8).toArray⟩,.string ⟨([70,65,76,83,69]:List UInt8).toArray⟩,.string ⟨([67,79,85,78,84]:List UInt8).toArray⟩,.string ⟨([83,85,77]:List UInt8).toArray⟩,.string ⟨([77,73,78]:List UInt8).toArray⟩,.string ⟨([77,65,88]:List UInt8).toArray⟩],rfl,rfl,⟨[.string ⟨([78,85,76,76]:List UInt8).toArray⟩],[.string ⟨([84,82,85,69]:List UInt8).toArray⟩,.string ⟨([70,65,76,83,69]:List UInt8).toArray⟩,.string ⟨([67,79,85,78,84]:List UInt8).toArray⟩,.string ⟨([83,85,77]:List UInt8).toArray⟩,.string ⟨([77,73,78]:List UInt8).toArray⟩,.string ⟨([77,65,88]:List UInt8).toArray⟩],rfl,rfl,⟨[.string ⟨([84,82,85,69]:List UInt8).toArray⟩],[.string ⟨([70,65,76,83,69]:List UInt8).toArray⟩,.string ⟨([67,79,85,78,84]:List UInt8).toArray⟩,.string ⟨([83,85,77]:List UInt8).toArray⟩,.string ⟨([77,73,78]:List UInt8).toArray⟩,.string ⟨([77,65,88]:List UInt8).toArray⟩],rfl,rfl,⟨[.string ⟨([70,65,76,83,69]:List UInt8).toArray⟩],[.string ⟨([67,79,85,78,84]:List UInt8).toArray⟩,.string ⟨([83,85,77]:List UInt8).toArray⟩,.string ⟨([77,73,78]:List UInt8).toArray⟩,.string ⟨([77,65,88]:List UInt8).toArray⟩],rfl,rfl,⟨[.string ⟨([67,79,85,78,84]:List UInt8).toArray⟩],[.string ⟨([83,85,77]:List UInt8).toArray⟩,.string ⟨([77,73,78]:List UInt8).toArray⟩,.string ⟨([77,65,88]:List UInt8).toArray⟩],rfl,rfl,⟨[.string ⟨([83,85,77]:List UInt8).toArray⟩],[.string ⟨([77,73,78]:List UInt8).toArray⟩,.string ⟨([77,65,88]:List UInt8).toArray⟩],rfl,rfl,⟨[.string ⟨([77,73,78]:List UInt8).toArray⟩],[.string ⟨([77,65,88]:List UInt8).toArray⟩],rfl,rfl,⟨[.string ⟨([77,65,88]:List UInt8).toArray⟩],[],rfl,rfl,(rfl:_=[])⟩⟩⟩⟩⟩⟩⟩⟩⟩⟩⟩⟩⟩⟩⟩⟩⟩⟩⟩⟩⟩⟩⟩⟩⟩⟩⟩⟩⟩

end Go.Proofs.YtmogpgcfognefaaGreatDoor

