/- dr of this claim: D. -/
import Derived.Test.YtnmjbolollcokaaGreatDoorRdV4
set_option linter.all false
namespace Go.Proofs.YtnmjbolollcokaaGreatDoor
open Go

structure df where
 Kind:Int
 N:Int
 U:Int
 S:jb
 deriving DecidableEq,Inhabited
def eG:Rp df:=nd (cN (rI .i64) (cN (rI .i64) (cN (rI .u64) rS))) (fun x=>(x.Kind,x.N,x.U,x.S))
theorem oK:m9 eG 0 (rI .i64) (fun x=>x.Kind):=(dH cJ)
theorem zu:gu eG 0 (rI .i64) (fun x y=>{x with Kind:=y}):=cn dg (fun _ _=>rfl)
theorem rq:m9 eG 1 (rI .i64) (fun x=>x.N):=(dH (aY cJ rfl))
theorem Dx:gu eG 1 (rI .i64) (fun x y=>{x with N:=y}):=cn (aX dg rfl) (fun _ _=>rfl)
theorem wv:m9 eG 2 (rI .u64) (fun x=>x.U):=(dH (aY (aY cJ rfl) rfl))
theorem JZ:gu eG 2 (rI .u64) (fun x y=>{x with U:=y}):=cn (aX (aX dg rfl) rfl) (fun _ _=>rfl)
theorem p5:m9 eG 3 rS (fun x=>x.S):=(aY (aY (aY cJ rfl) rfl) rfl)
theorem JY:gu eG 3 rS (fun x y=>{x with S:=y}):=cn (aX (aX (aX aj rfl) rfl) rfl) (fun _ _=>rfl)
theorem sa: ∀S,eG.rc S [.int .i64 0,.int .i64 0,.int .u64 0,.string ⟨#[]⟩] ((⟨(0:Int),(0:Int),(0:Int),[]⟩:df)):=fun _=>⟨[.int .i64 0],[.int .i64 0,.int .u64 0,.string ⟨#[]⟩],rfl,rfl,⟨[.int .i64 0],[.int .u64 0,.string ⟨#[]⟩],rfl,rfl,⟨[.int .u64 0],[.string ⟨#[]⟩],rfl,rfl,rfl⟩⟩⟩
structure bq where
 Tag:Int
 L:Int
 R:Int
 Col:Int
 Value:df
 deriving DecidableEq,Inhabited
def bc:Rp bq:=nd (cN (rI .i64) (cN (rI .i64) (cN (rI .i64) (cN (rI .i64) eG)))) (fun x=>(x.Tag,x.L,x.R,x.Col,x.Value))
theorem dd:m9 bc 0 (rI .i64) (fun x=>x.Tag):=(dH cJ)
theorem ko:m9 bc 1 (rI .i64) (fun x=>x.L):=(dH (aY cJ rfl))
theorem DD:gu bc 1 (rI .i64) (fun x y=>{x with L:=y}):=cn (aX dg rfl) (fun _ _=>rfl)
theorem jC:m9 bc 2 (rI .i64) (fun x=>x.R):=(dH (aY (aY cJ rfl) rfl))
theorem DC:gu bc 2 (rI .i64) (fun x y=>{x with R:=y}):=cn (aX (aX dg rfl) rfl) (fun _ _=>rfl)
theorem eQ:m9 bc 3 (rI .i64) (fun x=>x.Col):=(dH (aY (aY (aY cJ rfl) rfl) rfl))
theorem mu:m9 bc 4 eG (fun x=>x.Value):=(aY (aY (aY (aY cJ rfl) rfl) rfl) rfl)
theorem kZ: ∀S,bc.rc S [.int .i64 0,.int .i64 0,.int .i64 0,.int .i64 0,.int .i64 0,.int .i64 0,.int .u64 0,.string ⟨#[]⟩] ((⟨(0:Int),(0:Int),(0:Int),(0:Int),(⟨(0:Int),(0:Int),(0:Int),[]⟩:df)⟩:bq)):=fun _=>⟨[.int .i64 0],[.int .i64 0,.int .i64 0,.int .i64 0,.int .i64 0,.int .i64 0,.int .u64 0,.string ⟨#[]⟩],rfl,rfl,⟨[.int .i64 0],[.int .i64 0,.int .i64 0,.int .i64 0,.int .i64 0,.int .u64 0,.string ⟨#[]⟩],rfl,rfl,⟨[.int .i64 0],[.int .i64 0,.int .i64 0,.int .i64 0,.int .u64 0,.string ⟨#[]⟩],rfl,rfl,⟨[.int .i64 0],[.int .i64 0,.int .i64 0,.int .u64 0,.string ⟨#[]⟩],rfl,rfl,sa _⟩⟩⟩⟩
structure bf where
 Nodes:(List bq)
 deriving DecidableEq,Inhabited
def bn:Rp bf:=nd (fH bc) (fun x=>(x.Nodes))
theorem bZ:m9 bn 0 (fH bc) (fun x=>x.Nodes):=cJ
theorem Bq:gu bn 0 (fH bc) (fun x y=>{x with Nodes:=y}):=cn aj (fun _ _=>rfl)
theorem rA: ∀S,bn.rc S [.slice none 0 0] ((⟨[]⟩:bf)):=fun _=>⟨none,0,rfl,eW _,iP _,.inl rfl⟩
structure ip where
 Tag:Int
 Arg:bf
 deriving DecidableEq,Inhabited
def dP:Rp ip:=nd (cN (rI .i64) bn) (fun x=>(x.Tag,x.Arg))
theorem mX:m9 dP 0 (rI .i64) (fun x=>x.Tag):=(dH cJ)
theorem DE:gu dP 0 (rI .i64) (fun x y=>{x with Tag:=y}):=cn dg (fun _ _=>rfl)
theorem qM:m9 dP 1 bn (fun x=>x.Arg):=(aY cJ rfl)
theorem Oz:gu dP 1 bn (fun x y=>{x with Arg:=y}):=cn (aX aj rfl) (fun _ _=>rfl)
theorem zi: ∀S,dP.rc S [.int .i64 0,.slice none 0 0] ((⟨(0:Int),(⟨[]⟩:bf)⟩:ip)):=fun _=>⟨[.int .i64 0],[.slice none 0 0],rfl,rfl,rA _⟩
structure mB where
 Col:Int
 Desc:Bool
 deriving DecidableEq,Inhabited
def kJ:Rp mB:=nd (cN (rI .i64) rB) (fun x=>(x.Col,x.Desc))
theorem xN:m9 kJ 0 (rI .i64) (fun x=>x.Col):=(dH cJ)
theorem Pi:m9 kJ 1 rB (fun x=>x.Desc):=(aY cJ rfl)
structure af where
 Op:Int
 A:Int
 B:Int
 Table:Int
 Kinds:(List Int)
 Left:Bool
 Cond:bf
 Keys:(List Int)
 Aggs:(List ip)
 Items:(List bf)
 Order:(List mB)
 Limit:Int
 deriving DecidableEq,Inhabited
def ah:Rp af:=nd (cN (rI .i64) (cN (rI .i64) (cN (rI .i64) (cN (rI .i64) (cN (fH (rI .i64)) (cN rB (cN bn (cN (fH (rI .i64)) (cN (fH dP) (cN (fH bn) (cN (fH kJ) (rI .i64)))))))))))) (fun x=>(x.Op,x.A,x.B,x.Table,x.Kinds,x.Left,x.Cond,x.Keys,x.Aggs,x.Items,x.Order,x.Limit))
theorem eP:m9 ah 0 (rI .i64) (fun x=>x.Op):=(dH cJ)
theorem ra:gu ah 0 (rI .i64) (fun x y=>{x with Op:=y}):=cn dg (fun _ _=>rfl)
theorem cY:m9 ah 1 (rI .i64) (fun x=>x.A):=(dH (aY cJ rfl))
theorem mf:gu ah 1 (rI .i64) (fun x y=>{x with A:=y}):=cn (aX dg rfl) (fun _ _=>rfl)
theorem d9:m9 ah 2 (rI .i64) (fun x=>x.B):=(dH (aY (aY cJ rfl) rfl))
theorem k7:gu ah 2 (rI .i64) (fun x y=>{x with B:=y}):=cn (aX (aX dg rfl) rfl) (fun _ _=>rfl)
theorem hZ:m9 ah 3 (rI .i64) (fun x=>x.Table):=(dH (aY (aY (aY cJ rfl) rfl) rfl))
theorem v7:gu ah 3 (rI .i64) (fun x y=>{x with Table:=y}):=cn (aX (aX (aX dg rfl) rfl) rfl) (fun _ _=>rfl)
theorem fq:m9 ah 4 (fH (rI .i64)) (fun x=>x.Kinds):=(dH (aY (aY (aY (aY cJ rfl) rfl) rfl) rfl))
theorem tW:gu ah 4 (fH (rI .i64)) (fun x y=>{x with Kinds:=y}):=cn (aX (aX (aX (aX dg rfl) rfl) rfl) rfl) (fun _ _=>rfl)
theorem ww:m9 ah 5 rB (fun x=>x.Left):=(dH (aY (aY (aY (aY (aY cJ rfl) rfl) rfl) rfl) rfl))
theorem J2:gu ah 5 rB (fun x y=>{x with Left:=y}):=cn (aX (aX (aX (aX (aX dg rfl) rfl) rfl) rfl) rfl) (fun _ _=>rfl)
theorem jB:m9 ah 6 bn (fun x=>x.Cond):=(dH (aY (aY (aY (aY (aY (aY cJ rfl) rfl) rfl) rfl) rfl) rfl))
theorem zx:gu ah 6 bn (fun x y=>{x with Cond:=y}):=cn (aX (aX (aX (aX (aX (aX dg rfl) rfl) rfl) rfl) rfl) rfl) (fun _ _=>rfl)
theorem d8:m9 ah 7 (fH (rI .i64)) (fun x=>x.Keys):=(dH (aY (aY (aY (aY (aY (aY (aY cJ rfl) rfl) rfl) rfl) rfl) rfl) rfl))
theorem DB:gu ah 7 (fH (rI .i64)) (fun x y=>{x with Keys:=y}):=cn (aX (aX (aX (aX (aX (aX (aX dg rfl) rfl) rfl) rfl) rfl) rfl) rfl) (fun _ _=>rfl)
theorem ek:m9 ah 8 (fH dP) (fun x=>x.Aggs):=(dH (aY (aY (aY (aY (aY (aY (aY (aY cJ rfl) rfl) rfl) rfl) rfl) rfl) rfl) rfl))
theorem DA:gu ah 8 (fH dP) (fun x y=>{x with Aggs:=y}):=cn (aX (aX (aX (aX (aX (aX (aX (aX dg rfl) rfl) rfl) rfl) rfl) rfl) rfl) rfl) (fun _ _=>rfl)
theorem fN:m9 ah 9 (fH bn) (fun x=>x.Items):=(dH (aY (aY (aY (aY (aY (aY (aY (aY (aY cJ rfl) rfl) rfl) rfl) rfl) rfl) rfl) rfl) rfl))
theorem J1:gu ah 9 (fH bn) (fun x y=>{x with Items:=y}):=cn (aX (aX (aX (aX (aX (aX (aX (aX (aX dg rfl) rfl) rfl) rfl) rfl) rfl) rfl) rfl) rfl) (fun _ _=>rfl)
theorem gD:m9 ah 10 (fH kJ) (fun x=>x.Order):=(dH (aY (aY (aY (aY (aY (aY (aY (aY (aY (aY cJ rfl) rfl) rfl) rfl) rfl) rfl) rfl) rfl) rfl) rfl))
theorem B8:gu ah 10 (fH kJ) (fun x y=>{x with Order:=y}):=cn (aX (aX (aX (aX (aX (aX (aX (aX (aX (aX dg rfl) rfl) rfl) rfl) rfl) rfl) rfl) rfl) rfl) rfl) (fun _ _=>rfl)
theorem ne:m9 ah 11 (rI .i64) (fun x=>x.Limit):=(aY (aY (aY (aY (aY (aY (aY (aY (aY (aY (aY cJ rfl) rfl) rfl) rfl) rfl) rfl) rfl) rfl) rfl) rfl) rfl)
theorem H7:gu ah 11 (rI .i64) (fun x y=>{x with Limit:=y}):=cn (aX (aX (aX (aX (aX (aX (aX (aX (aX (aX (aX aj rfl) rfl) rfl) rfl) rfl) rfl) rfl) rfl) rfl) rfl) rfl) (fun _ _=>rfl)
theorem iT: ∀S,ah.rc S [.int .i64 0,.int .i64 0,.int .i64 0,.int .i64 0,.slice none 0 0,.bool false,.slice none 0 0,.slice none 0 0,.slice none 0 0,.slice none 0 0,.slice none 0 0,.int .i64 0] ((⟨(0:Int),(0:Int),(0:Int),(0:Int),[],false,(⟨[]⟩:bf),[],[],[],[],(0:Int)⟩:af)):=fun _=>⟨[.int .i64 0],[.int .i64 0,.int .i64 0,.int .i64 0,.slice none 0 0,.bool false,.slice none 0 0,.slice none 0 0,.slice none 0 0,.slice none 0 0,.slice none 0 0,.int .i64 0],rfl,rfl,⟨[.int .i64 0],[.int .i64 0,.int .i64 0,.slice none 0 0,.bool false,.slice none 0 0,.slice none 0 0,.slice none 0 0,.slice none 0 0,.slice none 0 0,.int .i64 0],rfl,rfl,⟨[.int .i64 0],[.int .i64 0,.slice none 0 0,.bool false,.slice none 0 0,.slice none 0 0,.slice none 0 0,.slice none 0 0,.slice none 0 0,.int .i64 0],rfl,rfl,⟨[.int .i64 0],[.slice none 0 0,.bool false,.slice none 0 0,.slice none 0 0,.slice none 0 0,.slice none 0 0,.slice none 0 0,.int .i64 0],rfl,rfl,⟨[.slice none 0 0],[.bool false,.slice none 0 0,.slice none 0 0,.slice none 0 0,.slice none 0 0,.slice none 0 0,.int .i64 0],rfl,⟨none,0,rfl,eW _,iP _,.inl rfl⟩,⟨[.bool false],[.slice none 0 0,.slice none 0 0,.slice none 0 0,.slice none 0 0,.slice none 0 0,.int .i64 0],rfl,rfl,⟨[.slice none 0 0],[.slice none 0 0,.slice none 0 0,.slice none 0 0,.slice none 0 0,.int .i64 0],rfl,rA _,⟨[.slice none 0 0],[.slice none 0 0,.slice none 0 0,.slice none 0 0,.int .i64 0],rfl,⟨none,0,rfl,eW _,iP _,.inl rfl⟩,⟨[.slice none 0 0],[.slice none 0 0,.slice none 0 0,.int .i64 0],rfl,⟨none,0,rfl,eW _,iP _,.inl rfl⟩,⟨[.slice none 0 0],[.slice none 0 0,.int .i64 0],rfl,⟨none,0,rfl,eW _,iP _,.inl rfl⟩,⟨[.slice none 0 0],[.int .i64 0],rfl,⟨none,0,rfl,eW _,iP _,.inl rfl⟩,rfl⟩⟩⟩⟩⟩⟩⟩⟩⟩⟩⟩
structure bR where
 Nodes:(List af)
 deriving DecidableEq,Inhabited
def ck:Rp bR:=nd (fH ah) (fun x=>(x.Nodes))
theorem dM:m9 ck 0 (fH ah) (fun x=>x.Nodes):=cJ
theorem zw:gu ck 0 (fH ah) (fun x y=>{x with Nodes:=y}):=cn aj (fun _ _=>rfl)
theorem pp: ∀S,ck.rc S [.slice none 0 0] ((⟨[]⟩:bR)):=fun _=>⟨none,0,rfl,eW _,iP _,.inl rfl⟩
structure aG where
 Logic:bR
 kinds:(List (List Int))
 first:(List Int)
 deriving DecidableEq,Inhabited
def bv:Rp aG:=nd (cN ck (cN (fH (fH (rI .i64))) (fH (rI .i64)))) (fun x=>(x.Logic,x.kinds,x.first))
theorem wu:m9 bv 0 ck (fun x=>x.Logic):=(dH cJ)
theorem GH:gu bv 0 ck (fun x y=>{x with Logic:=y}):=cn dg (fun _ _=>rfl)
theorem G9:m9 bv 1 (fH (fH (rI .i64))) (fun x=>x.kinds):=(dH (aY cJ rfl))
theorem GG:gu bv 1 (fH (fH (rI .i64))) (fun x y=>{x with kinds:=y}):=cn (aX dg rfl) (fun _ _=>rfl)
theorem AN:m9 bv 2 (fH (rI .i64)) (fun x=>x.first):=(aY (aY cJ rfl) rfl)
theorem GF:gu bv 2 (fH (rI .i64)) (fun x y=>{x with first:=y}):=cn (aX (aX aj rfl) rfl) (fun _ _=>rfl)
theorem JH: ∀S,bv.rc S [.slice none 0 0,.slice none 0 0,.slice none 0 0] ((⟨(⟨[]⟩:bR),[],[]⟩:aG)):=fun _=>⟨[.slice none 0 0],[.slice none 0 0,.slice none 0 0],rfl,pp _,⟨[.slice none 0 0],[.slice none 0 0],rfl,⟨none,0,rfl,eW _,iP _,.inl rfl⟩,⟨none,0,rfl,eW _,iP _,.inl rfl⟩⟩⟩
structure bT where
 Name:jb
 Kind:Int
 deriving DecidableEq,Inhabited
def dR:Rp bT:=nd (cN rS (rI .i64)) (fun x=>(x.Name,x.Kind))
theorem sI:m9 dR 0 rS (fun x=>x.Name):=(dH cJ)
theorem xr:gu dR 0 rS (fun x y=>{x with Name:=y}):=cn dg (fun _ _=>rfl)
theorem uY:m9 dR 1 (rI .i64) (fun x=>x.Kind):=(aY cJ rfl)
theorem xq:gu dR 1 (rI .i64) (fun x y=>{x with Kind:=y}):=cn (aX aj rfl) (fun _ _=>rfl)
theorem qa: ∀S,dR.rc S [.string ⟨#[]⟩,.int .i64 0] ((⟨[],(0:Int)⟩:bT)):=fun _=>⟨[.string ⟨#[]⟩],[.int .i64 0],rfl,rfl,rfl⟩
structure ED where
 word:jb
 kind:Int
 deriving DecidableEq,Inhabited
def wa:Rp ED:=nd (cN rS (rI .i64)) (fun x=>(x.word,x.kind))
theorem Nq:m9 wa 0 rS (fun x=>x.word):=(dH cJ)
theorem Np:m9 wa 1 (rI .i64) (fun x=>x.kind):=(aY cJ rfl)
theorem Qw: ∀S,wa.rc S [.string ⟨#[]⟩,.int .i64 0] ((⟨[],(0:Int)⟩:ED)):=fun _=>⟨[.string ⟨#[]⟩],[.int .i64 0],rfl,rfl,rfl⟩
structure ca where
 Name:jb
 Columns:(List bT)
 Keys:(List Int)
 deriving DecidableEq,Inhabited
def di:Rp ca:=nd (cN rS (cN (fH dR) (fH (rI .i64)))) (fun x=>(x.Name,x.Columns,x.Keys))
theorem rr:m9 di 0 rS (fun x=>x.Name):=(dH cJ)
theorem Dz:gu di 0 rS (fun x y=>{x with Name:=y}):=cn dg (fun _ _=>rfl)
theorem hY:m9 di 1 (fH dR) (fun x=>x.Columns):=(dH (aY cJ rfl))
theorem Dy:gu di 1 (fH dR) (fun x y=>{x with Columns:=y}):=cn (aX dg rfl) (fun _ _=>rfl)
theorem mq:m9 di 2 (fH (rI .i64)) (fun x=>x.Keys):=(aY (aY cJ rfl) rfl)
theorem J0:gu di 2 (fH (rI .i64)) (fun x y=>{x with Keys:=y}):=cn (aX (aX aj rfl) rfl) (fun _ _=>rfl)
theorem Ab: ∀S,di.rc S [.string ⟨#[]⟩,.slice none 0 0,.slice none 0 0] ((⟨[],[],[]⟩:ca)):=fun _=>⟨[.string ⟨#[]⟩],[.slice none 0 0,.slice none 0 0],rfl,rfl,⟨[.slice none 0 0],[.slice none 0 0],rfl,⟨none,0,rfl,eW _,iP _,.inl rfl⟩,⟨none,0,rfl,eW _,iP _,.inl rfl⟩⟩⟩
structure ce where
 Tables:(List ca)
 deriving DecidableEq,Inhabited
def da:Rp ce:=nd (fH di) (fun x=>(x.Tables))
theorem eM:m9 da 0 (fH di) (fun x=>x.Tables):=cJ
theorem GI:gu da 0 (fH di) (fun x y=>{x with Tables:=y}):=cn aj (fun _ _=>rfl)
theorem zh: ∀S,da.rc S [.slice none 0 0] ((⟨[]⟩:ce)):=fun _=>⟨none,0,rfl,eW _,iP _,.inl rfl⟩
structure bK where
 Nodes:(List af)
 At:Int
 Way:Int
 Cols:(List Int)
 deriving DecidableEq,Inhabited
def aH:Rp bK:=nd (cN (fH ah) (cN (rI .i64) (cN (rI .i64) (fH (rI .i64))))) (fun x=>(x.Nodes,x.At,x.Way,x.Cols))
theorem rs:m9 aH 0 (fH ah) (fun x=>x.Nodes):=(dH cJ)
theorem oX:gu aH 0 (fH ah) (fun x y=>{x with Nodes:=y}):=cn dg (fun _ _=>rfl)
theorem BG:m9 aH 1 (rI .i64) (fun x=>x.At):=(dH (aY cJ rfl))
theorem nM:gu aH 1 (rI .i64) (fun x y=>{x with At:=y}):=cn (aX dg rfl) (fun _ _=>rfl)
theorem F2:m9 aH 2 (rI .i64) (fun x=>x.Way):=(dH (aY (aY cJ rfl) rfl))
theorem oW:gu aH 2 (rI .i64) (fun x y=>{x with Way:=y}):=cn (aX (aX dg rfl) rfl) (fun _ _=>rfl)
theorem F1:m9 aH 3 (fH (rI .i64)) (fun x=>x.Cols):=(aY (aY (aY cJ rfl) rfl) rfl)
theorem Fx:gu aH 3 (fH (rI .i64)) (fun x y=>{x with Cols:=y}):=cn (aX (aX (aX aj rfl) rfl) rfl) (fun _ _=>rfl)
theorem mC: ∀S,aH.rc S [.slice none 0 0,.int .i64 0,.int .i64 0,.slice none 0 0] ((⟨[],(0:Int),(0:Int),[]⟩:bK)):=fun _=>⟨[.slice none 0 0],[.int .i64 0,.int .i64 0,.slice none 0 0],rfl,⟨none,0,rfl,eW _,iP _,.inl rfl⟩,⟨[.int .i64 0],[.int .i64 0,.slice none 0 0],rfl,rfl,⟨[.int .i64 0],[.slice none 0 0],rfl,rfl,⟨none,0,rfl,eW _,iP _,.inl rfl⟩⟩⟩⟩
structure dp where
 Frags:(List bK)
 deriving DecidableEq,Inhabited
def bG:Rp dp:=nd (fH aH) (fun x=>(x.Frags))
theorem fm:m9 bG 0 (fH aH) (fun x=>x.Frags):=cJ
theorem yj:gu bG 0 (fH aH) (fun x y=>{x with Frags:=y}):=cn aj (fun _ _=>rfl)
theorem jG: ∀S,bG.rc S [.slice none 0 0] ((⟨[]⟩:dp)):=fun _=>⟨none,0,rfl,eW _,iP _,.inl rfl⟩
structure aO where
 Plan:dp
 tree:bR
 catalog:ce
 kinds:(List (List Int))
 deriving DecidableEq,Inhabited
def bb:Rp aO:=nd (cN bG (cN ck (cN da (fH (fH (rI .i64)))))) (fun x=>(x.Plan,x.tree,x.catalog,x.kinds))
theorem wt:m9 bb 0 bG (fun x=>x.Plan):=(dH cJ)
theorem Al:gu bb 0 bG (fun x y=>{x with Plan:=y}):=cn dg (fun _ _=>rfl)
theorem G8:m9 bb 1 ck (fun x=>x.tree):=(dH (aY cJ rfl))
theorem GE:gu bb 1 ck (fun x y=>{x with tree:=y}):=cn (aX dg rfl) (fun _ _=>rfl)
theorem G7:m9 bb 2 da (fun x=>x.catalog):=(dH (aY (aY cJ rfl) rfl))
theorem GD:gu bb 2 da (fun x y=>{x with catalog:=y}):=cn (aX (aX dg rfl) rfl) (fun _ _=>rfl)
theorem GC:gu bb 3 (fH (fH (rI .i64))) (fun x y=>{x with kinds:=y}):=cn (aX (aX (aX aj rfl) rfl) rfl) (fun _ _=>rfl)
theorem JG: ∀S,bb.rc S [.slice none 0 0,.slice none 0 0,.slice none 0 0,.slice none 0 0] ((⟨(⟨[]⟩:dp),(⟨[]⟩:bR),(⟨[]⟩:ce),[]⟩:aO)):=fun _=>⟨[.slice none 0 0],[.slice none 0 0,.slice none 0 0,.slice none 0 0],rfl,jG _,⟨[.slice none 0 0],[.slice none 0 0,.slice none 0 0],rfl,pp _,⟨[.slice none 0 0],[.slice none 0 0],rfl,zh _,⟨none,0,rfl,eW _,iP _,.inl rfl⟩⟩⟩⟩
structure ba where
 nodes:(List af)
 kinds:(List Int)
 at_:Int
 hashed:(List Int)
 deriving DecidableEq,Inhabited
def ap:Rp ba:=nd (cN (fH ah) (cN (fH (rI .i64)) (cN (rI .i64) (fH (rI .i64))))) (fun x=>(x.nodes,x.kinds,x.at_,x.hashed))
theorem BF:m9 ap 0 (fH ah) (fun x=>x.nodes):=(dH cJ)
theorem Fw:gu ap 0 (fH ah) (fun x y=>{x with nodes:=y}):=cn dg (fun _ _=>rfl)
theorem BE:m9 ap 1 (fH (rI .i64)) (fun x=>x.kinds):=(dH (aY cJ rfl))
theorem Fv:gu ap 1 (fH (rI .i64)) (fun x y=>{x with kinds:=y}):=cn (aX dg rfl) (fun _ _=>rfl)
theorem mV:m9 ap 2 (rI .i64) (fun x=>x.at_):=(dH (aY (aY cJ rfl) rfl))
theorem Fu:gu ap 2 (rI .i64) (fun x y=>{x with at_:=y}):=cn (aX (aX dg rfl) rfl) (fun _ _=>rfl)
theorem kW:m9 ap 3 (fH (rI .i64)) (fun x=>x.hashed):=(aY (aY (aY cJ rfl) rfl) rfl)
theorem yh:gu ap 3 (fH (rI .i64)) (fun x y=>{x with hashed:=y}):=cn (aX (aX (aX aj rfl) rfl) rfl) (fun _ _=>rfl)
theorem gi: ∀S,ap.rc S [.slice none 0 0,.slice none 0 0,.int .i64 0,.slice none 0 0] ((⟨[],[],(0:Int),[]⟩:ba)):=fun _=>⟨[.slice none 0 0],[.slice none 0 0,.int .i64 0,.slice none 0 0],rfl,⟨none,0,rfl,eW _,iP _,.inl rfl⟩,⟨[.slice none 0 0],[.int .i64 0,.slice none 0 0],rfl,⟨none,0,rfl,eW _,iP _,.inl rfl⟩,⟨[.int .i64 0],[.slice none 0 0],rfl,rfl,⟨none,0,rfl,eW _,iP _,.inl rfl⟩⟩⟩⟩
structure ep where
 Frag:Int
 From:Int
 To:Int
 deriving DecidableEq,Inhabited
def gM:Rp ep:=nd (cN (rI .i64) (cN (rI .i64) (rI .i64))) (fun x=>(x.Frag,x.From,x.To))
theorem H6:gu gM 0 (rI .i64) (fun x y=>{x with Frag:=y}):=cn dg (fun _ _=>rfl)
theorem H5:gu gM 1 (rI .i64) (fun x y=>{x with From:=y}):=cn (aX dg rfl) (fun _ _=>rfl)
theorem H4:gu gM 2 (rI .i64) (fun x y=>{x with To:=y}):=cn (aX (aX aj rfl) rfl) (fun _ _=>rfl)
theorem Fh: ∀S,gM.rc S [.int .i64 0,.int .i64 0,.int .i64 0] ((⟨(0:Int),(0:Int),(0:Int)⟩:ep)):=fun _=>⟨[.int .i64 0],[.int .i64 0,.int .i64 0],rfl,rfl,⟨[.int .i64 0],[.int .i64 0],rfl,rfl,rfl⟩⟩
structure Y7 where
 Frag:Int
 Nodes:Int
 Node:Int
 deriving DecidableEq,Inhabited
structure bI where
 Frags:(List bK)
 Nodes:(List af)
 Kinds:(List Int)
 One:Bool
 Hashed:(List Int)
 deriving DecidableEq,Inhabited
def aW:Rp bI:=nd (cN (fH aH) (cN (fH ah) (cN (fH (rI .i64)) (cN rB (fH (rI .i64)))))) (fun x=>(x.Frags,x.Nodes,x.Kinds,x.One,x.Hashed))
theorem iG:m9 aW 0 (fH aH) (fun x=>x.Frags):=(dH cJ)
theorem lA:gu aW 0 (fH aH) (fun x y=>{x with Frags:=y}):=cn dg (fun _ _=>rfl)
theorem jA:m9 aW 1 (fH ah) (fun x=>x.Nodes):=(dH (aY cJ rfl))
theorem yi:gu aW 1 (fH ah) (fun x y=>{x with Nodes:=y}):=cn (aX dg rfl) (fun _ _=>rfl)
theorem F0:m9 aW 2 (fH (rI .i64)) (fun x=>x.Kinds):=(dH (aY (aY cJ rfl) rfl))
theorem Bp:gu aW 2 (fH (rI .i64)) (fun x y=>{x with Kinds:=y}):=cn (aX (aX dg rfl) rfl) (fun _ _=>rfl)
theorem kX:m9 aW 3 rB (fun x=>x.One):=(dH (aY (aY (aY cJ rfl) rfl) rfl))
theorem Bo:gu aW 3 rB (fun x y=>{x with One:=y}):=cn (aX (aX (aX dg rfl) rfl) rfl) (fun _ _=>rfl)
theorem mW:m9 aW 4 (fH (rI .i64)) (fun x=>x.Hashed):=(aY (aY (aY (aY cJ rfl) rfl) rfl) rfl)
theorem oV:gu aW 4 (fH (rI .i64)) (fun x y=>{x with Hashed:=y}):=cn (aX (aX (aX (aX aj rfl) rfl) rfl) rfl) (fun _ _=>rfl)
theorem jo: ∀S,aW.rc S [.slice none 0 0,.slice none 0 0,.slice none 0 0,.bool false,.slice none 0 0] ((⟨[],[],[],false,[]⟩:bI)):=fun _=>⟨[.slice none 0 0],[.slice none 0 0,.slice none 0 0,.bool false,.slice none 0 0],rfl,⟨none,0,rfl,eW _,iP _,.inl rfl⟩,⟨[.slice none 0 0],[.slice none 0 0,.bool false,.slice none 0 0],rfl,⟨none,0,rfl,eW _,iP _,.inl rfl⟩,⟨[.slice none 0 0],[.bool false,.slice none 0 0],rfl,⟨none,0,rfl,eW _,iP _,.inl rfl⟩,⟨[.bool false],[.slice none 0 0],rfl,rfl,⟨none,0,rfl,eW _,iP _,.inl rfl⟩⟩⟩⟩⟩
structure Js where
 Nodes:Value
def pV:Rp Js:=nd rV (fun x=>(x.Nodes))
theorem G6:m9 pV 0 rV (fun x=>x.Nodes):=cJ
def rm(y:bR)(v0:Value):Js:=⟨v0⟩
theorem JF: ∀S,pV.rc S [.slice none 0 0] (rm ((⟨[]⟩:bR)) (aV none 0 0)):=fun _=>⟨rfl,rfl⟩
structure Mf where
 Nodes:Value
def jv:Rp Mf:=nd rV (fun x=>(x.Nodes))
theorem xM:m9 jv 0 rV (fun x=>x.Nodes):=cJ
theorem H3:gu jv 0 rV (fun x y=>{x with Nodes:=y}):=cn aj (fun _ _=>rfl)
def j6(y:bf)(v0:Value):Mf:=⟨v0⟩
theorem Bh: ∀S,jv.rc S [.slice none 0 0] (j6 ((⟨[]⟩:bf)) (aV none 0 0)):=fun _=>⟨rfl,rfl⟩
structure Jt where
 Op:Int
 A:Int
 B:Int
 Table:Int
 Kinds:(List Int)
 Left:Bool
 Cond:bf
 Keys:(List Int)
 Aggs:Value
 Items:(List bf)
 Order:(List mB)
 Limit:Int
def iW:Rp Jt:=nd (cN (rI .i64) (cN (rI .i64) (cN (rI .i64) (cN (rI .i64) (cN (fH (rI .i64)) (cN rB (cN bn (cN (fH (rI .i64)) (cN rV (cN (fH bn) (cN (fH kJ) (rI .i64)))))))))))) (fun x=>(x.Op,x.A,x.B,x.Table,x.Kinds,x.Left,x.Cond,x.Keys,x.Aggs,x.Items,x.Order,x.Limit))
theorem Ak:gu iW 0 (rI .i64) (fun x y=>{x with Op:=y}):=cn dg (fun _ _=>rfl)
theorem Aj:gu iW 7 (fH (rI .i64)) (fun x y=>{x with Keys:=y}):=cn (aX (aX (aX (aX (aX (aX (aX dg rfl) rfl) rfl) rfl) rfl) rfl) rfl) (fun _ _=>rfl)
theorem AM:m9 iW 8 rV (fun x=>x.Aggs):=(dH (aY (aY (aY (aY (aY (aY (aY (aY cJ rfl) rfl) rfl) rfl) rfl) rfl) rfl) rfl))
def jz(y:af)(v8:Value):Jt:=⟨y.Op,y.A,y.B,y.Table,y.Kinds,y.Left,y.Cond,y.Keys,v8,y.Items,y.Order,y.Limit⟩
theorem vT: ∀S,iW.rc S [.int .i64 0,.int .i64 0,.int .i64 0,.int .i64 0,.slice none 0 0,.bool false,.slice none 0 0,.slice none 0 0,.slice none 0 0,.slice none 0 0,.slice none 0 0,.int .i64 0] (jz ((⟨(0:Int),(0:Int),(0:Int),(0:Int),[],false,(⟨[]⟩:bf),[],[],[],[],(0:Int)⟩:af)) (aV none 0 0)):=fun _=>⟨[.int .i64 0],[.int .i64 0,.int .i64 0,.int .i64 0,.slice none 0 0,.bool false,.slice none 0 0,.slice none 0 0,.slice none 0 0,.slice none 0 0,.slice none 0 0,.int .i64 0],rfl,rfl,⟨[.int .i64 0],[.int .i64 0,.int .i64 0,.slice none 0 0,.bool false,.slice none 0 0,.slice none 0 0,.slice none 0 0,.slice none 0 0,.slice none 0 0,.int .i64 0],rfl,rfl,⟨[.int .i64 0],[.int .i64 0,.slice none 0 0,.bool false,.slice none 0 0,.slice none 0 0,.slice none 0 0,.slice none 0 0,.slice none 0 0,.int .i64 0],rfl,rfl,⟨[.int .i64 0],[.slice none 0 0,.bool false,.slice none 0 0,.slice none 0 0,.slice none 0 0,.slice none 0 0,.slice none 0 0,.int .i64 0],rfl,rfl,⟨[.slice none 0 0],[.bool false,.slice none 0 0,.slice none 0 0,.slice none 0 0,.slice none 0 0,.slice none 0 0,.int .i64 0],rfl,⟨none,0,rfl,eW _,iP _,.inl rfl⟩,⟨[.bool false],[.slice none 0 0,.slice none 0 0,.slice none 0 0,.slice none 0 0,.slice none 0 0,.int .i64 0],rfl,rfl,⟨[.slice none 0 0],[.slice none 0 0,.slice none 0 0,.slice none 0 0,.slice none 0 0,.int .i64 0],rfl,rA _,⟨[.slice none 0 0],[.slice none 0 0,.slice none 0 0,.slice none 0 0,.int .i64 0],rfl,⟨none,0,rfl,eW _,iP _,.inl rfl⟩,⟨[.slice none 0 0],[.slice none 0 0,.slice none 0 0,.int .i64 0],rfl,⟨rfl,rfl⟩,⟨[.slice none 0 0],[.slice none 0 0,.int .i64 0],rfl,⟨none,0,rfl,eW _,iP _,.inl rfl⟩,⟨[.slice none 0 0],[.int .i64 0],rfl,⟨none,0,rfl,eW _,iP _,.inl rfl⟩,rfl⟩⟩⟩⟩⟩⟩⟩⟩⟩⟩⟩
structure EA where
 Op:Int
 A:Int
 B:Int
 Table:Int
 Kinds:(List Int)
 Left:Bool
 Cond:bf
 Keys:(List Int)
 Aggs:Value
 Items:Value
 Order:(List mB)
 Limit:Int
def lL:Rp EA:=nd (cN (rI .i64) (cN (rI .i64) (cN (rI .i64) (cN (rI .i64) (cN (fH (rI .i64)) (cN rB (cN bn (cN (fH (rI .i64)) (cN rV (cN rV (cN (fH kJ) (rI .i64)))))))))))) (fun x=>(x.Op,x.A,x.B,x.Table,x.Kinds,x.Left,x.Cond,x.Keys,x.Aggs,x.Items,x.Order,x.Limit))
theorem uk:m9 lL 8 rV (fun x=>x.Aggs):=(dH (aY (aY (aY (aY (aY (aY (aY (aY cJ rfl) rfl) rfl) rfl) rfl) rfl) rfl) rfl))
theorem uj:m9 lL 9 rV (fun x=>x.Items):=(dH (aY (aY (aY (aY (aY (aY (aY (aY (aY cJ rfl) rfl) rfl) rfl) rfl) rfl) rfl) rfl) rfl))
def o8(y:af)(v8:Value)(v9:Value):EA:=⟨y.Op,y.A,y.B,y.Table,y.Kinds,y.Left,y.Cond,y.Keys,v8,v9,y.Order,y.Limit⟩
structure Me where
 nodes:Value
 kinds:(List Int)
 at_:Int
 hashed:(List Int)
def lD:Rp Me:=nd (cN rV (cN (fH (rI .i64)) (cN (rI .i64) (fH (rI .i64))))) (fun x=>(x.nodes,x.kinds,x.at_,x.hashed))
theorem sH:m9 lD 0 rV (fun x=>x.nodes):=(dH cJ)
theorem H2:gu lD 1 (fH (rI .i64)) (fun x y=>{x with kinds:=y}):=cn (aX dg rfl) (fun _ _=>rfl)
theorem H1:gu lD 2 (rI .i64) (fun x y=>{x with at_:=y}):=cn (aX (aX dg rfl) rfl) (fun _ _=>rfl)
def nS(y:ba)(v0:Value):Me:=⟨v0,y.kinds,y.at_,y.hashed⟩
theorem Fg: ∀S,lD.rc S [.slice none 0 0,.slice none 0 0,.int .i64 0,.slice none 0 0] (nS ((⟨[],[],(0:Int),[]⟩:ba)) (aV none 0 0)):=fun _=>⟨[.slice none 0 0],[.slice none 0 0,.int .i64 0,.slice none 0 0],rfl,⟨rfl,rfl⟩,⟨[.slice none 0 0],[.int .i64 0,.slice none 0 0],rfl,⟨none,0,rfl,eW _,iP _,.inl rfl⟩,⟨[.int .i64 0],[.slice none 0 0],rfl,rfl,⟨none,0,rfl,eW _,iP _,.inl rfl⟩⟩⟩⟩
theorem CQ{S:SH}{cs:List Value}{y:bR}{v0:Value}{xs0:(List af)}(k0:(fH ah).rc S [v0] xs0)(h:pV.rc S cs (rm y v0)):ck.rc S cs ((⟨xs0⟩:bR)):=by
 have h0:=h
 exact(by rw [h0.1];exact k0)
theorem xU{S:SH}{cs:List Value}{y:bf}{v0:Value}{xs0:(List bq)}(k0:(fH bc).rc S [v0] xs0)(h:jv.rc S cs (j6 y v0)):bn.rc S cs ((⟨xs0⟩:bf)):=by
 have h0:=h
 exact(by rw [h0.1];exact k0)
theorem wQ{S:SH}{cs:List Value}{y:af}{v8:Value}{xs8:(List ip)}(k8:(fH dP).rc S [v8] xs8)(h:iW.rc S cs (jz y v8)):ah.rc S cs ((⟨y.Op,y.A,y.B,y.Table,y.Kinds,y.Left,y.Cond,y.Keys,xs8,y.Items,y.Order,y.Limit⟩:af)):=by
 obtain⟨a0,b0,e0,h0,a1,b1,e1,h1,a2,b2,e2,h2,a3,b3,e3,h3,a4,b4,e4,h4,a5,b5,e5,h5,a6,b6,e6,h6,a7,b7,e7,h7,a8,b8,e8,h8,a9,b9,e9,h9,a10,b10,e10,h10,h11⟩:=h
 exact⟨a0,b0,e0,h0,a1,b1,e1,h1,a2,b2,e2,h2,a3,b3,e3,h3,a4,b4,e4,h4,a5,b5,e5,h5,a6,b6,e6,h6,a7,b7,e7,h7,a8,b8,e8,(by rw [h8.1];exact k8),a9,b9,e9,h9,a10,b10,e10,h10,h11⟩
theorem AS{S:SH}{cs:List Value}{y:af}{v8:Value}{v9:Value}{xs8:(List ip)}(k8:(fH dP).rc S [v8] xs8){xs9:(List bf)}(k9:(fH bn).rc S [v9] xs9)(h:lL.rc S cs (o8 y v8 v9)):ah.rc S cs ((⟨y.Op,y.A,y.B,y.Table,y.Kinds,y.Left,y.Cond,y.Keys,xs8,xs9,y.Order,y.Limit⟩:af)):=by
 obtain⟨a0,b0,e0,h0,a1,b1,e1,h1,a2,b2,e2,h2,a3,b3,e3,h3,a4,b4,e4,h4,a5,b5,e5,h5,a6,b6,e6,h6,a7,b7,e7,h7,a8,b8,e8,h8,a9,b9,e9,h9,a10,b10,e10,h10,h11⟩:=h
 exact⟨a0,b0,e0,h0,a1,b1,e1,h1,a2,b2,e2,h2,a3,b3,e3,h3,a4,b4,e4,h4,a5,b5,e5,h5,a6,b6,e6,h6,a7,b7,e7,h7,a8,b8,e8,(by rw [h8.1];exact k8),a9,b9,e9,(by rw [h9.1];exact k9),a10,b10,e10,h10,h11⟩
theorem Ep{S:SH}{cs:List Value}{y:ba}{v0:Value}{xs0:(List af)}(k0:(fH ah).rc S [v0] xs0)(h:lD.rc S cs (nS y v0)):ap.rc S cs ((⟨xs0,y.kinds,y.at_,y.hashed⟩:ba)):=by
 obtain⟨a0,b0,e0,h0,a1,b1,e1,h1,a2,b2,e2,h2,h3⟩:=h
 exact⟨a0,b0,e0,(by rw [h0.1];exact k0),a1,b1,e1,h1,a2,b2,e2,h2,h3⟩
theorem xl(y:bR)(u:Value)(v:Value):s8 pV pV 0 rV (rm y u) v (rm y v):=yf (nL rfl) rfl
theorem yM(y:bf)(u:Value)(v:Value):s8 jv jv 0 rV (j6 y u) v (j6 y v):=yf (nL rfl) rfl
theorem zt(y:af)(v:Value):s8 ah iW 8 rV (y) v (jz y v):=yf (iq (iq (iq (iq (iq (iq (iq (iq (CX (nL rfl) rfl) rfl) rfl) rfl) rfl) rfl) rfl) rfl) rfl) rfl
theorem sf(y:af)(u:Value)(v:Value):s8 iW iW 8 rV (jz y u) v (jz y v):=yf (iq (iq (iq (iq (iq (iq (iq (iq (CX (nL rfl) rfl) rfl) rfl) rfl) rfl) rfl) rfl) rfl) rfl) rfl
theorem vZ(y:af)(v8:Value)(v:Value):s8 iW lL 9 rV (jz y v8) v (o8 y v8 v):=yf (iq (iq (iq (iq (iq (iq (iq (iq (iq (CX (nL rfl) rfl) rfl) rfl) rfl) rfl) rfl) rfl) rfl) rfl) rfl) rfl
theorem s0(y:ba)(u:Value)(v:Value):s8 lD lD 0 rV (nS y u) v (nS y v):=yf (CX (nL rfl) rfl) rfl
def d4(b:Nat)(x:aG)(i:OI):List OE:=[bx (rH bv [(1,aV (i.h 0).1 (i.h 0).2 x.kinds.length),(2,aV (i.h 1).1 (i.h 1).2 x.first.length)]) 123 b x,tip (fH (rI .i64)) 42 (i.h 0).1 (i.h 0).2 x.kinds,tip (rI .i64) 3 (i.h 1).1 (i.h 1).2 x.first]
def ig(b:Nat)(x:aO)(i:OI):List OE:=[bx (rH bb [(0,aV (i.h 0).1 (i.h 0).2 x.Plan.Frags.length),(3,aV (i.h 1).1 (i.h 1).2 x.kinds.length)]) 91 b x,tip aH 74 (i.h 0).1 (i.h 0).2 x.Plan.Frags,tip (fH (rI .i64)) 42 (i.h 1).1 (i.h 1).2 x.kinds]
def T5:(List ED):=[(⟨[98,111,111,108],(1:Int)⟩:ED),(⟨[105,110,116],(2:Int)⟩:ED),(⟨[116,101,120,116],(3:Int)⟩:ED)]
theorem gm0:((0:Nat),([.string ⟨([98,111,111,108]:List UInt8).toArray⟩,.int .i64 (1),.string ⟨([105,110,116]:List UInt8).toArray⟩,.int .i64 (2),.string ⟨([116,101,120,116]:List UInt8).toArray⟩,.int .i64 (3)]:List Value))∈glob:=by simp [glob]
theorem gr0: ∀S,(vh wa 3).rc S ([.string ⟨([98,111,111,108]:List UInt8).toArray⟩,.int .i64 (1),.string ⟨([105,110,116]:List UInt8).toArray⟩,.int .i64 (2),.string ⟨([116,101,120,116]:List UInt8).toArray⟩,.int .i64 (3)]:List Value) T5:=fun _=>⟨rfl,⟨[.string ⟨([98,111,111,108]:List UInt8).toArray⟩,.int .i64 (1)],[.string ⟨([105,110,116]:List UInt8).toArray⟩,.int .i64 (2),.string ⟨([116,101,120,116]:List UInt8).toArray⟩,.int .i64 (3)],rfl,⟨[.string ⟨([98,111,111,108]:List UInt8).toArray⟩],[.int .i64 (1)],rfl,rfl,rfl⟩,⟨[.string ⟨([105,110,116]:List UInt8).toArray⟩,.int .i64 (2)],[.string ⟨([116,101,120,116]:List UInt8).toArray⟩,.int .i64 (3)],rfl,⟨[.string ⟨([105,110,116]:List UInt8).toArray⟩],[.int .i64 (2)],rfl,rfl,rfl⟩,⟨[.string ⟨([116,101,120,116]:List UInt8).toArray⟩,.int .i64 (3)],[],rfl,⟨[.string ⟨([116,101,120,116]:List UInt8).toArray⟩],[.int .i64 (3)],rfl,rfl,rfl⟩,(rfl:_=[])⟩⟩⟩⟩
def VW:(List jb):=[[83,69,76,69,67,84],[68,73,83,84,73,78,67,84],[70,82,79,77],[76,69,70,84],[74,79,73,78],[79,78],[87,72,69,82,69],[71,82,79,85,80],[66,89],[72,65,86,73,78,71],[85,78,73,79,78],[65,76,76],[79,82,68,69,82],[76,73,77,73,84],[65,83,67],[68,69,83,67],[65,83],[65,78,68],[79,82],[78,79,84],[73,83],[78,85,76,76],[84,82,85,69],[70,65,76,83,69],[67,79,85,78,84],[83,85,77],[77,73,78],[77,65,88]]
theorem gm1:((1:Nat),([.string ⟨([83,69,76,69,67,84]:List UInt8).toArray⟩,.string ⟨([68,73,83,84,73,78,67,84]:List UInt8).toArray⟩,.string ⟨([70,82,79,77]:List UInt8).toArray⟩,.string ⟨([76,69,70,84]:List UInt8).toArray⟩,.string ⟨([74,79,73,78]:List UInt8).toArray⟩,.string ⟨([79,78]:List UInt8).toArray⟩,.string ⟨([87,72,69,82,69]:List UInt8).toArray⟩,.string ⟨([71,82,79,85,80]:List UInt8).toArray⟩,.string ⟨([66,89]:List UInt8).toArray⟩,.string ⟨([72,65,86,73,78,71]:List UInt8).toArray⟩,.string ⟨([85,78,73,79,78]:List UInt8).toArray⟩,.string ⟨([65,76,76]:List UInt8).toArray⟩,.string ⟨([79,82,68,69,82]:List UInt8).toArray⟩,.string ⟨([76,73,77,73,84]:List UInt8).toArray⟩,.string ⟨([65,83,67]:List UInt8).toArray⟩,.string ⟨([68,69,83,67]:List UInt8).toArray⟩,.string ⟨([65,83]:List UInt8).toArray⟩,.string ⟨([65,78,68]:List UInt8).toArray⟩,.string ⟨([79,82]:List UInt8).toArray⟩,.string ⟨([78,79,84]:List UInt8).toArray⟩,.string ⟨([73,83]:List UInt8).toArray⟩,.string ⟨([78,85,76,76]:List UInt8).toArray⟩,.string ⟨([84,82,85,69]:List UInt8).toArray⟩,.string ⟨([70,65,76,83,69]:List UInt8).toArray⟩,.string ⟨([67,79,85,78,84]:List UInt8).toArray⟩,.string ⟨([83,85,77]:List UInt8).toArray⟩,.string ⟨([77,73,78]:List UInt8).toArray⟩,.string ⟨([77,65,88]:List UInt8).toArray⟩]:List Value))∈glob:=by simp [glob]
theorem gr1: ∀S,(vh rS 28).rc S ([.string ⟨([83,69,76,69,67,84]:List UInt8).toArray⟩,.string ⟨([68,73,83,84,73,78,67,84]:List UInt8).toArray⟩,.string ⟨([70,82,79,77]:List UInt8).toArray⟩,.string ⟨([76,69,70,84]:List UInt8).toArray⟩,.string ⟨([74,79,73,78]:List UInt8).toArray⟩,.string ⟨([79,78]:List UInt8).toArray⟩,.string ⟨([87,72,69,82,69]:List UInt8).toArray⟩,.string ⟨([71,82,79,85,80]:List UInt8).toArray⟩,.string ⟨([66,89]:List UInt8).toArray⟩,.string ⟨([72,65,86,73,78,71]:List UInt8).toArray⟩,.string ⟨([85,78,73,79,78]:List UInt8).toArray⟩,.string ⟨([65,76,76]:List UInt8).toArray⟩,.string ⟨([79,82,68,69,82]:List UInt8).toArray⟩,.string ⟨([76,73,77,73,84]:List UInt8).toArray⟩,.string ⟨([65,83,67]:List UInt8).toArray⟩,.string ⟨([68,69,83,67]:List UInt8).toArray⟩,.string ⟨([65,83]:List UInt8).toArray⟩,.string ⟨([65,78,68]:List UInt8).toArray⟩,.string ⟨([79,82]:List UInt8).toArray⟩,.string ⟨([78,79,84]:List UInt8).toArray⟩,.string ⟨([73,83]:List UInt8).toArray⟩,.string ⟨([78,85,76,76]:List UInt8).toArray⟩,.string ⟨([84,82,85,69]:List UInt8).toArray⟩,.string ⟨([70,65,76,83,69]:List UInt8).toArray⟩,.string ⟨([67,79,85,78,84]:List UInt8).toArray⟩,.string ⟨([83,85,77]:List UInt8).toArray⟩,.string ⟨([77,73,78]:List UInt8).toArray⟩,.string ⟨([77,65,88]:List UInt8).toArray⟩]:List Value) VW:=fun _=>⟨rfl,⟨[.string ⟨([83,69,76,69,67,84]:List UInt8).toArray⟩],[.string ⟨([68,73,83,84,73,78,67,84]:List UInt8).toArray⟩,.string ⟨([70,82,79,77]:List UInt8).toArray⟩,.string ⟨([76,69,70,84]:List UInt8).toArray⟩,.string ⟨([74,79,73,78]:List UInt8).toArray⟩,.string ⟨([79,78]:List UInt8).toArray⟩,.string ⟨([87,72,69,82,69]:List UInt8).toArray⟩,.string ⟨([71,82,79,85,80]:List UInt8).toArray⟩,.string ⟨([66,89]:List UInt8).toArray⟩,.string ⟨([72,65,86,73,78,71]:List UInt8).toArray⟩,.string ⟨([85,78,73,79,78]:List UInt8).toArray⟩,.string ⟨([65,76,76]:List UInt8).toArray⟩,.string ⟨([79,82,68,69,82]:List UInt8).toArray⟩,.string ⟨([76,73,77,73,84]:List UInt8).toArray⟩,.string ⟨([65,83,67]:List UInt8).toArray⟩,.string ⟨([68,69,83,67]:List UInt8).toArray⟩,.string ⟨([65,83]:List UInt8).toArray⟩,.string ⟨([65,78,68]:List UInt8).toArray⟩,.string ⟨([79,82]:List UInt8).toArray⟩,.string ⟨([78,79,84]:List UInt8).toArray⟩,.string ⟨([73,83]:List UInt8).toArray⟩,.string ⟨([78,85,76,76]:List UInt8).toArray⟩,.string ⟨([84,82,85,69]:List UInt8).toArray⟩,.string ⟨([70,65,76,83,69]:List UInt8).toArray⟩,.string ⟨([67,79,85,78,84]:List UInt8).toArray⟩,.string ⟨([83,85,77]:List UInt8).toArray⟩,.string ⟨([77,73,78]:List UInt8).toArray⟩,.string ⟨([77,65,88]:List UInt8).toArray⟩],rfl,rfl,⟨[.string ⟨([68,73,83,84,73,78,67,84]:List UInt8).toArray⟩],[.string ⟨([70,82,79,77]:List UInt8).toArray⟩,.string ⟨([76,69,70,84]:List UInt8).toArray⟩,.string ⟨([74,79,73,78]:List UInt8).toArray⟩,.string ⟨([79,78]:List UInt8).toArray⟩,.string ⟨([87,72,69,82,69]:List UInt8).toArray⟩,.string ⟨([71,82,79,85,80]:List UInt8).toArray⟩,.string ⟨([66,89]:List UInt8).toArray⟩,.string ⟨([72,65,86,73,78,71]:List UInt8).toArray⟩,.string ⟨([85,78,73,79,78]:List UInt8).toArray⟩,.string ⟨([65,76,76]:List UInt8).toArray⟩,.string ⟨([79,82,68,69,82]:List UInt8).toArray⟩,.string ⟨([76,73,77,73,84]:List UInt8).toArray⟩,.string ⟨([65,83,67]:List UInt8).toArray⟩,.string ⟨([68,69,83,67]:List UInt8).toArray⟩,.string ⟨([65,83]:List UInt8).toArray⟩,.string ⟨([65,78,68]:List UInt8).toArray⟩,.string ⟨([79,82]:List UInt8).toArray⟩,.string ⟨([78,79,84]:List UInt8).toArray⟩,.string ⟨([73,83]:List UInt8).toArray⟩,.string ⟨([78,85,76,76]:List UInt8).toArray⟩,.string ⟨([84,82,85,69]:List UInt8).toArray⟩,.string ⟨([70,65,76,83,69]:List UInt8).toArray⟩,.string ⟨([67,79,85,78,84]:List UInt8).toArray⟩,.string ⟨([83,85,77]:List UInt8).toArray⟩,.string ⟨([77,73,78]:List UInt8).toArray⟩,.string ⟨([77,65,88]:List UInt8).toArray⟩],rfl,rfl,⟨[.string ⟨([70,82,79,77]:List UInt8).toArray⟩],[.string ⟨([76,69,70,84]:List UInt8).toArray⟩,.string ⟨([74,79,73,78]:List UInt8).toArray⟩,.string ⟨([79,78]:List UInt8).toArray⟩,.string ⟨([87,72,69,82,69]:List UInt8).toArray⟩,.string ⟨([71,82,79,85,80]:List UInt8).toArray⟩,.string ⟨([66,89]:List UInt8).toArray⟩,.string ⟨([72,65,86,73,78,71]:List UInt8).toArray⟩,.string ⟨([85,78,73,79,78]:List UInt8).toArray⟩,.string ⟨([65,76,76]:List UInt8).toArray⟩,.string ⟨([79,82,68,69,82]:List UInt8).toArray⟩,.string ⟨([76,73,77,73,84]:List UInt8).toArray⟩,.string ⟨([65,83,67]:List UInt8).toArray⟩,.string ⟨([68,69,83,67]:List UInt8).toArray⟩,.string ⟨([65,83]:List UInt8).toArray⟩,.string ⟨([65,78,68]:List UInt8).toArray⟩,.string ⟨([79,82]:List UInt8).toArray⟩,.string ⟨([78,79,84]:List UInt8).toArray⟩,.string ⟨([73,83]:List UInt8).toArray⟩,.string ⟨([78,85,76,76]:List UInt8).toArray⟩,.string ⟨([84,82,85,69]:List UInt8).toArray⟩,.string ⟨([70,65,76,83,69]:List UInt8).toArray⟩,.string ⟨([67,79,85,78,84]:List UInt8).toArray⟩,.string ⟨([83,85,77]:List UInt8).toArray⟩,.string ⟨([77,73,78]:List UInt8).toArray⟩,.string ⟨([77,65,88]:List UInt8).toArray⟩],rfl,rfl,⟨[.string ⟨([76,69,70,84]:List UInt8).toArray⟩],[.string ⟨([74,79,73,78]:List UInt8).toArray⟩,.string ⟨([79,78]:List UInt8).toArray⟩,.string ⟨([87,72,69,82,69]:List UInt8).toArray⟩,.string ⟨([71,82,79,85,80]:List UInt8).toArray⟩,.string ⟨([66,89]:List UInt8).toArray⟩,.string ⟨([72,65,86,73,78,71]:List UInt8).toArray⟩,.string ⟨([85,78,73,79,78]:List UInt8).toArray⟩,.string ⟨([65,76,76]:List UInt8).toArray⟩,.string ⟨([79,82,68,69,82]:List UInt8).toArray⟩,.string ⟨([76,73,77,73,84]:List UInt8).toArray⟩,.string ⟨([65,83,67]:List UInt8).toArray⟩,.string ⟨([68,69,83,67]:List UInt8).toArray⟩,.string ⟨([65,83]:List UInt8).toArray⟩,.string ⟨([65,78,68]:List UInt8).toArray⟩,.string ⟨([79,82]:List UInt8).toArray⟩,.string ⟨([78,79,84]:List UInt8).toArray⟩,.string ⟨([73,83]:List UInt8).toArray⟩,.string ⟨([78,85,76,76]:List UInt8).toArray⟩,.string ⟨([84,82,85,69]:List UInt8).toArray⟩,.string ⟨([70,65,76,83,69]:List UInt8).toArray⟩,.string ⟨([67,79,85,78,84]:List UInt8).toArray⟩,.string ⟨([83,85,77]:List UInt8).toArray⟩,.string ⟨([77,73,78]:List UInt8).toArray⟩,.string ⟨([77,65,88]:List UInt8).toArray⟩],rfl,rfl,⟨[.string ⟨([74,79,73,78]:List UInt8).toArray⟩],[.string ⟨([79,78]:List UInt8).toArray⟩,.string ⟨([87,72,69,82,69]:List UInt8).toArray⟩,.string ⟨([71,82,79,85,80]:List UInt8).toArray⟩,.string ⟨([66,89]:List UInt8).toArray⟩,.string ⟨([72,65,86,73,78,71]:List UInt8).toArray⟩,.string ⟨([85,78,73,79,78]:List UInt8).toArray⟩,.string ⟨([65,76,76]:List UInt8).toArray⟩,.string ⟨([79,82,68,69,82]:List UInt8).toArray⟩,.string ⟨([76,73,77,73,84]:List UInt8).toArray⟩,.string ⟨([65,83,67]:List UInt8).toArray⟩,.string ⟨([68,69,83,67]:List UInt8).toArray⟩,.string ⟨([65,83]:List UInt8).toArray⟩,.string ⟨([65,78,68]:List UInt8).toArray⟩,.string ⟨([79,82]:List UInt8).toArray⟩,.string ⟨([78,79,84]:List UInt8).toArray⟩,.string ⟨([73,83]:List UInt8).toArray⟩,.string ⟨([78,85,76,76]:List UInt8).toArray⟩,.string ⟨([84,82,85,69]:List UInt8).toArray⟩,.string ⟨([70,65,76,83,69]:List UInt8).toArray⟩,.string ⟨([67,79,85,78,84]:List UInt8).toArray⟩,.string ⟨([83,85,77]:List UInt8).toArray⟩,.string ⟨([77,73,78]:List UInt8).toArray⟩,.string ⟨([77,65,88]:List UInt8).toArray⟩],rfl,rfl,⟨[.string ⟨([79,78]:List UInt8).toArray⟩],[.string ⟨([87,72,69,82,69]:List UInt8).toArray⟩,.string ⟨([71,82,79,85,80]:List UInt8).toArray⟩,.string ⟨([66,89]:List UInt8).toArray⟩,.string ⟨([72,65,86,73,78,71]:List UInt8).toArray⟩,.string ⟨([85,78,73,79,78]:List UInt8).toArray⟩,.string ⟨([65,76,76]:List UInt8).toArray⟩,.string ⟨([79,82,68,69,82]:List UInt8).toArray⟩,.string ⟨([76,73,77,73,84]:List UInt8).toArray⟩,.string ⟨([65,83,67]:List UInt8).toArray⟩,.string ⟨([68,69,83,67]:List UInt8).toArray⟩,.string ⟨([65,83]:List UInt8).toArray⟩,.string ⟨([65,78,68]:List UInt8).toArray⟩,.string ⟨([79,82]:List UInt8).toArray⟩,.string ⟨([78,79,84]:List UInt8).toArray⟩,.string ⟨([73,83]:List UInt8).toArray⟩,.string ⟨([78,85,76,76]:List UInt8).toArray⟩,.string ⟨([84,82,85,69]:List UInt8).toArray⟩,.string ⟨([70,65,76,83,69]:List UInt8).toArray⟩,.string ⟨([67,79,85,78,84]:List UInt8).toArray⟩,.string ⟨([83,85,77]:List UInt8).toArray⟩,.string ⟨([77,73,78]:List UInt8).toArray⟩,.string ⟨([77,65,88]:List UInt8).toArray⟩],rfl,rfl,⟨[.string ⟨([87,72,69,82,69]:List UInt8).toArray⟩],[.string ⟨([71,82,79,85,80]:List UInt8).toArray⟩,.string ⟨([66,89]:List UInt8).toArray⟩,.string ⟨([72,65,86,73,78,71]:List UInt8).toArray⟩,.string ⟨([85,78,73,79,78]:List UInt8).toArray⟩,.string ⟨([65,76,76]:List UInt8).toArray⟩,.string ⟨([79,82,68,69,82]:List UInt8).toArray⟩,.string ⟨([76,73,77,73,84]:List UInt8).toArray⟩,.string ⟨([65,83,67]:List UInt8).toArray⟩,.string ⟨([68,69,83,67]:List UInt8).toArray⟩,.string ⟨([65,83]:List UInt8).toArray⟩,.string ⟨([65,78,68]:List UInt8).toArray⟩,.string ⟨([79,82]:List UInt8).toArray⟩,.string ⟨([78,79,84]:List UInt8).toArray⟩,.string ⟨([73,83]:List UInt8).toArray⟩,.string ⟨([78,85,76,76]:List UInt8).toArray⟩,.string ⟨([84,82,85,69]:List UInt8).toArray⟩,.string ⟨([70,65,76,83,69]:List UInt8).toArray⟩,.string ⟨([67,79,85,78,84]:List UInt8).toArray⟩,.string ⟨([83,85,77]:List UInt8).toArray⟩,.string ⟨([77,73,78]:List UInt8).toArray⟩,.string ⟨([77,65,88]:List UInt8).toArray⟩],rfl,rfl,⟨[.string ⟨([71,82,79,85,80]:List UInt8).toArray⟩],[.string ⟨([66,89]:List UInt8).toArray⟩,.string ⟨([72,65,86,73,78,71]:List UInt8).toArray⟩,.string ⟨([85,78,73,79,78]:List UInt8).toArray⟩,.string ⟨([65,76,76]:List UInt8).toArray⟩,.string ⟨([79,82,68,69,82]:List UInt8).toArray⟩,.string ⟨([76,73,77,73,84]:List UInt8).toArray⟩,.string ⟨([65,83,67]:List UInt8).toArray⟩,.string ⟨([68,69,83,67]:List UInt8).toArray⟩,.string ⟨([65,83]:List UInt8).toArray⟩,.string ⟨([65,78,68]:List UInt8).toArray⟩,.string ⟨([79,82]:List UInt8).toArray⟩,.string ⟨([78,79,84]:List UInt8).toArray⟩,.string ⟨([73,83]:List UInt8).toArray⟩,.string ⟨([78,85,76,76]:List UInt8).toArray⟩,.string ⟨([84,82,85,69]:List UInt8).toArray⟩,.string ⟨([70,65,76,83,69]:List UInt8).toArray⟩,.string ⟨([67,79,85,78,84]:List UInt8).toArray⟩,.string ⟨([83,85,77]:List UInt8).toArray⟩,.string ⟨([77,73,78]:List UInt8).toArray⟩,.string ⟨([77,65,88]:List UInt8).toArray⟩],rfl,rfl,⟨[.string ⟨([66,89]:List UInt8).toArray⟩],[.string ⟨([72,65,86,73,78,71]:List UInt8).toArray⟩,.string ⟨([85,78,73,79,78]:List UInt8).toArray⟩,.string ⟨([65,76,76]:List UInt8).toArray⟩,.string ⟨([79,82,68,69,82]:List UInt8).toArray⟩,.string ⟨([76,73,77,73,84]:List UInt8).toArray⟩,.string ⟨([65,83,67]:List UInt8).toArray⟩,.string ⟨([68,69,83,67]:List UInt8).toArray⟩,.string ⟨([65,83]:List UInt8).toArray⟩,.string ⟨([65,78,68]:List UInt8).toArray⟩,.string ⟨([79,82]:List UInt8).toArray⟩,.string ⟨([78,79,84]:List UInt8).toArray⟩,.string ⟨([73,83]:List UInt8).toArray⟩,.string ⟨([78,85,76,76]:List UInt8).toArray⟩,.string ⟨([84,82,85,69]:List UInt8).toArray⟩,.string ⟨([70,65,76,83,69]:List UInt8).toArray⟩,.string ⟨([67,79,85,78,84]:List UInt8).toArray⟩,.string ⟨([83,85,77]:List UInt8).toArray⟩,.string ⟨([77,73,78]:List UInt8).toArray⟩,.string ⟨([77,65,88]:List UInt8).toArray⟩],rfl,rfl,⟨[.string ⟨([72,65,86,73,78,71]:List UInt8).toArray⟩],[.string ⟨([85,78,73,79,78]:List UInt8).toArray⟩,.string ⟨([65,76,76]:List UInt8).toArray⟩,.string ⟨([79,82,68,69,82]:List UInt8).toArray⟩,.string ⟨([76,73,77,73,84]:List UInt8).toArray⟩,.string ⟨([65,83,67]:List UInt8).toArray⟩,.string ⟨([68,69,83,67]:List UInt8).toArray⟩,.string ⟨([65,83]:List UInt8).toArray⟩,.string ⟨([65,78,68]:List UInt8).toArray⟩,.string ⟨([79,82]:List UInt8).toArray⟩,.string ⟨([78,79,84]:List UInt8).toArray⟩,.string ⟨([73,83]:List UInt8).toArray⟩,.string ⟨([78,85,76,76]:List UInt8).toArray⟩,.string ⟨([84,82,85,69]:List UInt8).toArray⟩,.string ⟨([70,65,76,83,69]:List UInt8).toArray⟩,.string ⟨([67,79,85,78,84]:List UInt8).toArray⟩,.string ⟨([83,85,77]:List UInt8).toArray⟩,.string ⟨([77,73,78]:List UInt8).toArray⟩,.string ⟨([77,65,88]:List UInt8).toArray⟩],rfl,rfl,⟨[.string ⟨([85,78,73,79,78]:List UInt8).toArray⟩],[.string ⟨([65,76,76]:List UInt8).toArray⟩,.string ⟨([79,82,68,69,82]:List UInt8).toArray⟩,.string ⟨([76,73,77,73,84]:List UInt8).toArray⟩,.string ⟨([65,83,67]:List UInt8).toArray⟩,.string ⟨([68,69,83,67]:List UInt8).toArray⟩,.string ⟨([65,83]:List UInt8).toArray⟩,.string ⟨([65,78,68]:List UInt8).toArray⟩,.string ⟨([79,82]:List UInt8).toArray⟩,.string ⟨([78,79,84]:List UInt8).toArray⟩,.string ⟨([73,83]:List UInt8).toArray⟩,.string ⟨([78,85,76,76]:List UInt8).toArray⟩,.string ⟨([84,82,85,69]:List UInt8).toArray⟩,.string ⟨([70,65,76,83,69]:List UInt8).toArray⟩,.string ⟨([67,79,85,78,84]:List UInt8).toArray⟩,.string ⟨([83,85,77]:List UInt8).toArray⟩,.string ⟨([77,73,78]:List UInt8).toArray⟩,.string ⟨([77,65,88]:List UInt8).toArray⟩],rfl,rfl,⟨[.string ⟨([65,76,76]:List UInt8).toArray⟩],[.string ⟨([79,82,68,69,82]:List UInt8).toArray⟩,.string ⟨([76,73,77,73,84]:List UInt8).toArray⟩,.string ⟨([65,83,67]:List UInt8).toArray⟩,.string ⟨([68,69,83,67]:List UInt8).toArray⟩,.string ⟨([65,83]:List UInt8).toArray⟩,.string ⟨([65,78,68]:List UInt8).toArray⟩,.string ⟨([79,82]:List UInt8).toArray⟩,.string ⟨([78,79,84]:List UInt8).toArray⟩,.string ⟨([73,83]:List UInt8).toArray⟩,.string ⟨([78,85,76,76]:List UInt8).toArray⟩,.string ⟨([84,82,85,69]:List UInt8).toArray⟩,.string ⟨([70,65,76,83,69]:List UInt8).toArray⟩,.string ⟨([67,79,85,78,84]:List UInt8).toArray⟩,.string ⟨([83,85,77]:List UInt8).toArray⟩,.string ⟨([77,73,78]:List UInt8).toArray⟩,.string ⟨([77,65,88]:List UInt8).toArray⟩],rfl,rfl,⟨[.string ⟨([79,82,68,69,82]:List UInt8).toArray⟩],[.string ⟨([76,73,77,73,84]:List UInt8).toArray⟩,.string ⟨([65,83,67]:List UInt8).toArray⟩,.string ⟨([68,69,83,67]:List UInt8).toArray⟩,.string ⟨([65,83]:List UInt8).toArray⟩,.string ⟨([65,78,68]:List UInt8).toArray⟩,.string ⟨([79,82]:List UInt8).toArray⟩,.string ⟨([78,79,84]:List UInt8).toArray⟩,.string ⟨([73,83]:List UInt8).toArray⟩,.string ⟨([78,85,76,76]:List UInt8).toArray⟩,.string ⟨([84,82,85,69]:List UInt8).toArray⟩,.string ⟨([70,65,76,83,69]:List UInt8).toArray⟩,.string ⟨([67,79,85,78,84]:List UInt8).toArray⟩,.string ⟨([83,85,77]:List UInt8).toArray⟩,.string ⟨([77,73,78]:List UInt8).toArray⟩,.string ⟨([77,65,88]:List UInt8).toArray⟩],rfl,rfl,⟨[.string ⟨([76,73,77,73,84]:List UInt8).toArray⟩],[.string ⟨([65,83,67]:List UInt8).toArray⟩,.string ⟨([68,69,83,67]:List UInt8).toArray⟩,.string ⟨([65,83]:List UInt8).toArray⟩,.string ⟨([65,78,68]:List UInt8).toArray⟩,.string ⟨([79,82]:List UInt8).toArray⟩,.string ⟨([78,79,84]:List UInt8).toArray⟩,.string ⟨([73,83]:List UInt8).toArray⟩,.string ⟨([78,85,76,76]:List UInt8).toArray⟩,.string ⟨([84,82,85,69]:List UInt8).toArray⟩,.string ⟨([70,65,76,83,69]:List UInt8).toArray⟩,.string ⟨([67,79,85,78,84]:List UInt8).toArray⟩,.string ⟨([83,85,77]:List UInt8).toArray⟩,.string ⟨([77,73,78]:List UInt8).toArray⟩,.string ⟨([77,65,88]:List UInt8).toArray⟩],rfl,rfl,⟨[.string ⟨([65,83,67]:List UInt8).toArray⟩],[.string ⟨([68,69,83,67]:List UInt8).toArray⟩,.string ⟨([65,83]:List UInt8).toArray⟩,.string ⟨([65,78,68]:List UInt8).toArray⟩,.string ⟨([79,82]:List UInt8).toArray⟩,.string ⟨([78,79,84]:List UInt8).toArray⟩,.string ⟨([73,83]:List UInt8).toArray⟩,.string ⟨([78,85,76,76]:List UInt8).toArray⟩,.string ⟨([84,82,85,69]:List UInt8).toArray⟩,.string ⟨([70,65,76,83,69]:List UInt8).toArray⟩,.string ⟨([67,79,85,78,84]:List UInt8).toArray⟩,.string ⟨([83,85,77]:List UInt8).toArray⟩,.string ⟨([77,73,78]:List UInt8).toArray⟩,.string ⟨([77,65,88]:List UInt8).toArray⟩],rfl,rfl,⟨[.string ⟨([68,69,83,67]:List UInt8).toArray⟩],[.string ⟨([65,83]:List UInt8).toArray⟩,.string ⟨([65,78,68]:List UInt8).toArray⟩,.string ⟨([79,82]:List UInt8).toArray⟩,.string ⟨([78,79,84]:List UInt8).toArray⟩,.string ⟨([73,83]:List UInt8).toArray⟩,.string ⟨([78,85,76,76]:List UInt8).toArray⟩,.string ⟨([84,82,85,69]:List UInt8).toArray⟩,.string ⟨([70,65,76,83,69]:List UInt8).toArray⟩,.string ⟨([67,79,85,78,84]:List UInt8).toArray⟩,.string ⟨([83,85,77]:List UInt8).toArray⟩,.string ⟨([77,73,78]:List UInt8).toArray⟩,.string ⟨([77,65,88]:List UInt8).toArray⟩],rfl,rfl,⟨[.string ⟨([65,83]:List UInt8).toArray⟩],[.string ⟨([65,78,68]:List UInt8).toArray⟩,.string ⟨([79,82]:List UInt8).toArray⟩,.string ⟨([78,79,84]:List UInt8).toArray⟩,.string ⟨([73,83]:List UInt8).toArray⟩,.string ⟨([78,85,76,76]:List UInt8).toArray⟩,.string ⟨([84,82,85,69]:List UInt8).toArray⟩,.string ⟨([70,65,76,83,69]:List UInt8).toArray⟩,.string ⟨([67,79,85,78,84]:List UInt8).toArray⟩,.string ⟨([83,85,77]:List UInt8).toArray⟩,.string ⟨([77,73,78]:List UInt8).toArray⟩,.string ⟨([77,65,88]:List UInt8).toArray⟩],rfl,rfl,⟨[.string ⟨([65,78,68]:List UInt8).toArray⟩],[.string ⟨([79,82]:List UInt8).toArray⟩,.string ⟨([78,79,84]:List UInt8).toArray⟩,.string ⟨([73,83]:List UInt8).toArray⟩,.string ⟨([78,85,76,76]:List UInt8).toArray⟩,.string ⟨([84,82,85,69]:List UInt8).toArray⟩,.string ⟨([70,65,76,83,69]:List UInt8).toArray⟩,.string ⟨([67,79,85,78,84]:List UInt8).toArray⟩,.string ⟨([83,85,77]:List UInt8).toArray⟩,.string ⟨([77,73,78]:List UInt8).toArray⟩,.string ⟨([77,65,88]:List UInt8).toArray⟩],rfl,rfl,⟨[.string ⟨([79,82]:List UInt8).toArray⟩],[.string ⟨([78,79,84]:List UInt8).toArray⟩,.string ⟨([73,83]:List UInt8).toArray⟩,.string ⟨([78,85,76,76]:List UInt8).toArray⟩,.string ⟨([84,82,85,69]:List UInt8).toArray⟩,.string ⟨([70,65,76,83,69]:List UInt8).toArray⟩,.string ⟨([67,79,85,78,84]:List UInt8).toArray⟩,.string ⟨([83,85,77]:List UInt8).toArray⟩,.string ⟨([77,73,78]:List UInt8).toArray⟩,.string ⟨([77,65,88]:List UInt8).toArray⟩],rfl,rfl,⟨[.string ⟨([78,79,84]:List UInt8).toArray⟩],[.string ⟨([73,83]:List UInt8).toArray⟩,.string ⟨([78,85,76,76]:List UInt8).toArray⟩,.string ⟨([84,82,85,69]:List UInt8).toArray⟩,.string ⟨([70,65,76,83,69]:List UInt8).toArray⟩,.string ⟨([67,79,85,78,84]:List UInt8).toArray⟩,.string ⟨([83,85,77]:List UInt8).toArray⟩,.string ⟨([77,73,78]:List UInt8).toArray⟩,.string ⟨([77,65,88]:List UInt8).toArray⟩],rfl,rfl,⟨[.string ⟨([73,83]:List UInt8).toArray⟩],[.string ⟨([78,85,76,76]:List UInt8).toArray⟩,.string ⟨([84,82,85,69]:List UInt8).toArray⟩,.string ⟨([70,65,76,83,69]:List UInt8).toArray⟩,.string ⟨([67,79,85,78,84]:List UInt8).toArray⟩,.string ⟨([83,85,77]:List UInt8).toArray⟩,.string ⟨([77,73,78]:List UInt8).toArray⟩,.string ⟨([77,65,88]:List UInt8).toArray⟩],rfl,rfl,⟨[.string ⟨([78,85,76,76]:List UInt8).toArray⟩],[.string ⟨([84,82,85,69]:List UInt8).toArray⟩,.string ⟨([70,65,76,83,69]:List UInt8).toArray⟩,.string ⟨([67,79,85,78,84]:List UInt8).toArray⟩,.string ⟨([83,85,77]:List UInt8).toArray⟩,.string ⟨([77,73,78]:List UInt8).toArray⟩,.string ⟨([77,65,88]:List UInt8).toArray⟩],rfl,rfl,⟨[.string ⟨([84,82,85,69]:List UInt8).toArray⟩],[.string ⟨([70,65,76,83,69]:List UInt8).toArray⟩,.string ⟨([67,79,85,78,84]:List UInt8).toArray⟩,.string ⟨([83,85,77]:List UInt8).toArray⟩,.string ⟨([77,73,78]:List UInt8).toArray⟩,.string ⟨([77,65,88]:List UInt8).toArray⟩],rfl,rfl,⟨[.string ⟨([70,65,76,83,69]:List UInt8).toArray⟩],[.string ⟨([67,79,85,78,84]:List UInt8).toArray⟩,.string ⟨([83,85,77]:List UInt8).toArray⟩,.string ⟨([77,73,78]:List UInt8).toArray⟩,.string ⟨([77,65,88]:List UInt8).toArray⟩],rfl,rfl,⟨[.string ⟨([67,79,85,78,84]:List UInt8).toArray⟩],[.string ⟨([83,85,77]:List UInt8).toArray⟩,.string ⟨([77,73,78]:List UInt8).toArray⟩,.string ⟨([77,65,88]:List UInt8).toArray⟩],rfl,rfl,⟨[.string ⟨([83,85,77]:List UInt8).toArray⟩],[.string ⟨([77,73,78]:List UInt8).toArray⟩,.string ⟨([77,65,88]:List UInt8).toArray⟩],rfl,rfl,⟨[.string ⟨([77,73,78]:List UInt8).toArray⟩],[.string ⟨([77,65,88]:List UInt8).toArray⟩],rfl,rfl,⟨[.string ⟨([77,65,88]:List UInt8).toArray⟩],[],rfl,rfl,(rfl:_=[])⟩⟩⟩⟩⟩⟩⟩⟩⟩⟩⟩⟩⟩⟩⟩⟩⟩⟩⟩⟩⟩⟩⟩⟩⟩⟩⟩⟩⟩

end Go.Proofs.YtnmjbolollcokaaGreatDoor

