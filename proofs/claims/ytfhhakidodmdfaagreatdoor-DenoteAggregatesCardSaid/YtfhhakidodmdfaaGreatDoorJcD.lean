/- di of this claim: D. -/
import Derived.Test.YtfhhakidodmdfaaGreatDoorJcV4
set_option linter.all false
namespace Go.Proofs.YtfhhakidodmdfaaGreatDoor
open Go

structure ac where
 Kind:Int
 N:Int
 U:Int
 S:xc
 deriving DecidableEq,Inhabited
def af:Rp ac:=sa (dI (rI .i64) (dI (rI .i64) (dI (rI .u64) rS))) (fun x=>(x.Kind,x.N,x.U,x.S))
theorem br:pY af 0 (rI .i64) (fun x=>x.Kind):=(gI dS)
theorem jV:j5 af 0 (rI .i64) (fun x y=>{x with Kind:=y}):=dn fF (fun _ _=>rfl)
theorem bY:pY af 1 (rI .i64) (fun x=>x.N):=(gI (bt dS rfl))
theorem lL:j5 af 1 (rI .i64) (fun x y=>{x with N:=y}):=dn (bv fF rfl) (fun _ _=>rfl)
theorem hY:pY af 2 (rI .u64) (fun x=>x.U):=(gI (bt (bt dS rfl) rfl))
theorem wn:j5 af 2 (rI .u64) (fun x y=>{x with U:=y}):=dn (bv (bv fF rfl) rfl) (fun _ _=>rfl)
theorem dy:pY af 3 rS (fun x=>x.S):=(bt (bt (bt dS rfl) rfl) rfl)
theorem Mp:j5 af 3 rS (fun x y=>{x with S:=y}):=dn (bv (bv (bv ai rfl) rfl) rfl) (fun _ _=>rfl)
theorem aJ: ∀S,af.rc S [.int .i64 0,.int .i64 0,.int .u64 0,.string ⟨#[]⟩] ((⟨(0:Int),(0:Int),(0:Int),[]⟩:ac)):=fun _=>⟨[.int .i64 0],[.int .i64 0,.int .u64 0,.string ⟨#[]⟩],rfl,rfl,⟨[.int .i64 0],[.int .u64 0,.string ⟨#[]⟩],rfl,rfl,⟨[.int .u64 0],[.string ⟨#[]⟩],rfl,rfl,rfl⟩⟩⟩
structure bC where
 Tag:Int
 L:Int
 R:Int
 Col:Int
 Value:ac
 deriving DecidableEq,Inhabited
def bO:Rp bC:=sa (dI (rI .i64) (dI (rI .i64) (dI (rI .i64) (dI (rI .i64) af)))) (fun x=>(x.Tag,x.L,x.R,x.Col,x.Value))
theorem fz:pY bO 0 (rI .i64) (fun x=>x.Tag):=(gI dS)
theorem Mz:j5 bO 0 (rI .i64) (fun x y=>{x with Tag:=y}):=dn fF (fun _ _=>rfl)
theorem t6:pY bO 1 (rI .i64) (fun x=>x.L):=(gI (bt dS rfl))
theorem My:j5 bO 1 (rI .i64) (fun x y=>{x with L:=y}):=dn (bv fF rfl) (fun _ _=>rfl)
theorem rk:pY bO 2 (rI .i64) (fun x=>x.R):=(gI (bt (bt dS rfl) rfl))
theorem Mx:j5 bO 2 (rI .i64) (fun x y=>{x with R:=y}):=dn (bv (bv fF rfl) rfl) (fun _ _=>rfl)
theorem iO:pY bO 3 (rI .i64) (fun x=>x.Col):=(gI (bt (bt (bt dS rfl) rfl) rfl))
theorem Mw:j5 bO 3 (rI .i64) (fun x y=>{x with Col:=y}):=dn (bv (bv (bv fF rfl) rfl) rfl) (fun _ _=>rfl)
theorem lP:pY bO 4 af (fun x=>x.Value):=(bt (bt (bt (bt dS rfl) rfl) rfl) rfl)
theorem qa: ∀S,bO.rc S [.int .i64 0,.int .i64 0,.int .i64 0,.int .i64 0,.int .i64 0,.int .i64 0,.int .u64 0,.string ⟨#[]⟩] ((⟨(0:Int),(0:Int),(0:Int),(0:Int),(⟨(0:Int),(0:Int),(0:Int),[]⟩:ac)⟩:bC)):=fun _=>⟨[.int .i64 0],[.int .i64 0,.int .i64 0,.int .i64 0,.int .i64 0,.int .i64 0,.int .u64 0,.string ⟨#[]⟩],rfl,rfl,⟨[.int .i64 0],[.int .i64 0,.int .i64 0,.int .i64 0,.int .i64 0,.int .u64 0,.string ⟨#[]⟩],rfl,rfl,⟨[.int .i64 0],[.int .i64 0,.int .i64 0,.int .i64 0,.int .u64 0,.string ⟨#[]⟩],rfl,rfl,⟨[.int .i64 0],[.int .i64 0,.int .i64 0,.int .u64 0,.string ⟨#[]⟩],rfl,rfl,aJ _⟩⟩⟩⟩
structure bS where
 Nodes:(List bC)
 deriving DecidableEq,Inhabited
def ck:Rp bS:=sa (ik bO) (fun x=>(x.Nodes))
theorem fQ:pY ck 0 (ik bO) (fun x=>x.Nodes):=dS
theorem yD:j5 ck 0 (ik bO) (fun x y=>{x with Nodes:=y}):=dn ai (fun _ _=>rfl)
theorem uv: ∀S,ck.rc S [.slice none 0 0] ((⟨[]⟩:bS)):=fun _=>⟨none,0,rfl,dY _,mA _,.inl rfl⟩
structure gv where
 Tag:Int
 Arg:bS
 deriving DecidableEq,Inhabited
def eH:Rp gv:=sa (dI (rI .i64) ck) (fun x=>(x.Tag,x.Arg))
theorem iP:pY eH 0 (rI .i64) (fun x=>x.Tag):=(gI dS)
theorem J0:j5 eH 0 (rI .i64) (fun x y=>{x with Tag:=y}):=dn fF (fun _ _=>rfl)
theorem oh:pY eH 1 ck (fun x=>x.Arg):=(bt dS rfl)
theorem JZ:j5 eH 1 ck (fun x y=>{x with Arg:=y}):=dn (bv ai rfl) (fun _ _=>rfl)
theorem HO: ∀S,eH.rc S [.int .i64 0,.slice none 0 0] ((⟨(0:Int),(⟨[]⟩:bS)⟩:gv)):=fun _=>⟨[.int .i64 0],[.slice none 0 0],rfl,rfl,uv _⟩
structure ig where
 Col:Int
 Desc:Bool
 deriving DecidableEq,Inhabited
def hT:Rp ig:=sa (dI (rI .i64) rB) (fun x=>(x.Col,x.Desc))
theorem Bo:pY hT 0 (rI .i64) (fun x=>x.Col):=(gI dS)
theorem Sa:pY hT 1 rB (fun x=>x.Desc):=(bt dS rfl)
theorem XQ: ∀S,hT.rc S [.int .i64 0,.bool false] ((⟨(0:Int),false⟩:ig)):=fun _=>⟨[.int .i64 0],[.bool false],rfl,rfl,rfl⟩
structure ay where
 Op:Int
 A:Int
 B:Int
 Table:Int
 Kinds:(List Int)
 Left:Bool
 Cond:bS
 Keys:(List Int)
 Aggs:(List gv)
 Items:(List bS)
 Order:(List ig)
 Limit:Int
 deriving DecidableEq,Inhabited
def aW:Rp ay:=sa (dI (rI .i64) (dI (rI .i64) (dI (rI .i64) (dI (rI .i64) (dI (ik (rI .i64)) (dI rB (dI ck (dI (ik (rI .i64)) (dI (ik eH) (dI (ik ck) (dI (ik hT) (rI .i64)))))))))))) (fun x=>(x.Op,x.A,x.B,x.Table,x.Kinds,x.Left,x.Cond,x.Keys,x.Aggs,x.Items,x.Order,x.Limit))
theorem rj:pY aW 0 (rI .i64) (fun x=>x.Op):=(gI dS)
theorem Ey:j5 aW 0 (rI .i64) (fun x y=>{x with Op:=y}):=dn fF (fun _ _=>rfl)
theorem d9:pY aW 1 (rI .i64) (fun x=>x.A):=(gI (bt dS rfl))
theorem Ex:j5 aW 1 (rI .i64) (fun x y=>{x with A:=y}):=dn (bv fF rfl) (fun _ _=>rfl)
theorem kV:pY aW 2 (rI .i64) (fun x=>x.B):=(gI (bt (bt dS rfl) rfl))
theorem Ag:j5 aW 2 (rI .i64) (fun x y=>{x with B:=y}):=dn (bv (bv fF rfl) rfl) (fun _ _=>rfl)
theorem ri:pY aW 3 (rI .i64) (fun x=>x.Table):=(gI (bt (bt (bt dS rfl) rfl) rfl))
theorem Mt:j5 aW 3 (rI .i64) (fun x y=>{x with Table:=y}):=dn (bv (bv (bv fF rfl) rfl) rfl) (fun _ _=>rfl)
theorem pC:pY aW 4 (ik (rI .i64)) (fun x=>x.Kinds):=(gI (bt (bt (bt (bt dS rfl) rfl) rfl) rfl))
theorem Af:j5 aW 4 (ik (rI .i64)) (fun x y=>{x with Kinds:=y}):=dn (bv (bv (bv (bv fF rfl) rfl) rfl) rfl) (fun _ _=>rfl)
theorem Fe:pY aW 5 rB (fun x=>x.Left):=(gI (bt (bt (bt (bt (bt dS rfl) rfl) rfl) rfl) rfl))
theorem Ms:j5 aW 5 rB (fun x y=>{x with Left:=y}):=dn (bv (bv (bv (bv (bv fF rfl) rfl) rfl) rfl) rfl) (fun _ _=>rfl)
theorem pz:pY aW 6 ck (fun x=>x.Cond):=(gI (bt (bt (bt (bt (bt (bt dS rfl) rfl) rfl) rfl) rfl) rfl))
theorem Ae:j5 aW 6 ck (fun x y=>{x with Cond:=y}):=dn (bv (bv (bv (bv (bv (bv fF rfl) rfl) rfl) rfl) rfl) rfl) (fun _ _=>rfl)
theorem oe:pY aW 7 (ik (rI .i64)) (fun x=>x.Keys):=(gI (bt (bt (bt (bt (bt (bt (bt dS rfl) rfl) rfl) rfl) rfl) rfl) rfl))
theorem Ew:j5 aW 7 (ik (rI .i64)) (fun x y=>{x with Keys:=y}):=dn (bv (bv (bv (bv (bv (bv (bv fF rfl) rfl) rfl) rfl) rfl) rfl) rfl) (fun _ _=>rfl)
theorem rh:pY aW 8 (ik eH) (fun x=>x.Aggs):=(gI (bt (bt (bt (bt (bt (bt (bt (bt dS rfl) rfl) rfl) rfl) rfl) rfl) rfl) rfl))
theorem Ev:j5 aW 8 (ik eH) (fun x y=>{x with Aggs:=y}):=dn (bv (bv (bv (bv (bv (bv (bv (bv fF rfl) rfl) rfl) rfl) rfl) rfl) rfl) rfl) (fun _ _=>rfl)
theorem py:pY aW 9 (ik ck) (fun x=>x.Items):=(gI (bt (bt (bt (bt (bt (bt (bt (bt (bt dS rfl) rfl) rfl) rfl) rfl) rfl) rfl) rfl) rfl))
theorem Mr:j5 aW 9 (ik ck) (fun x y=>{x with Items:=y}):=dn (bv (bv (bv (bv (bv (bv (bv (bv (bv fF rfl) rfl) rfl) rfl) rfl) rfl) rfl) rfl) rfl) (fun _ _=>rfl)
theorem sk:pY aW 10 (ik hT) (fun x=>x.Order):=(gI (bt (bt (bt (bt (bt (bt (bt (bt (bt (bt dS rfl) rfl) rfl) rfl) rfl) rfl) rfl) rfl) rfl) rfl))
theorem C2:j5 aW 10 (ik hT) (fun x y=>{x with Order:=y}):=dn (bv (bv (bv (bv (bv (bv (bv (bv (bv (bv fF rfl) rfl) rfl) rfl) rfl) rfl) rfl) rfl) rfl) rfl) (fun _ _=>rfl)
theorem uM:pY aW 11 (rI .i64) (fun x=>x.Limit):=(bt (bt (bt (bt (bt (bt (bt (bt (bt (bt (bt dS rfl) rfl) rfl) rfl) rfl) rfl) rfl) rfl) rfl) rfl) rfl)
theorem JY:j5 aW 11 (rI .i64) (fun x y=>{x with Limit:=y}):=dn (bv (bv (bv (bv (bv (bv (bv (bv (bv (bv (bv ai rfl) rfl) rfl) rfl) rfl) rfl) rfl) rfl) rfl) rfl) rfl) (fun _ _=>rfl)
theorem p9: ∀S,aW.rc S [.int .i64 0,.int .i64 0,.int .i64 0,.int .i64 0,.slice none 0 0,.bool false,.slice none 0 0,.slice none 0 0,.slice none 0 0,.slice none 0 0,.slice none 0 0,.int .i64 0] ((⟨(0:Int),(0:Int),(0:Int),(0:Int),[],false,(⟨[]⟩:bS),[],[],[],[],(0:Int)⟩:ay)):=fun _=>⟨[.int .i64 0],[.int .i64 0,.int .i64 0,.int .i64 0,.slice none 0 0,.bool false,.slice none 0 0,.slice none 0 0,.slice none 0 0,.slice none 0 0,.slice none 0 0,.int .i64 0],rfl,rfl,⟨[.int .i64 0],[.int .i64 0,.int .i64 0,.slice none 0 0,.bool false,.slice none 0 0,.slice none 0 0,.slice none 0 0,.slice none 0 0,.slice none 0 0,.int .i64 0],rfl,rfl,⟨[.int .i64 0],[.int .i64 0,.slice none 0 0,.bool false,.slice none 0 0,.slice none 0 0,.slice none 0 0,.slice none 0 0,.slice none 0 0,.int .i64 0],rfl,rfl,⟨[.int .i64 0],[.slice none 0 0,.bool false,.slice none 0 0,.slice none 0 0,.slice none 0 0,.slice none 0 0,.slice none 0 0,.int .i64 0],rfl,rfl,⟨[.slice none 0 0],[.bool false,.slice none 0 0,.slice none 0 0,.slice none 0 0,.slice none 0 0,.slice none 0 0,.int .i64 0],rfl,⟨none,0,rfl,dY _,mA _,.inl rfl⟩,⟨[.bool false],[.slice none 0 0,.slice none 0 0,.slice none 0 0,.slice none 0 0,.slice none 0 0,.int .i64 0],rfl,rfl,⟨[.slice none 0 0],[.slice none 0 0,.slice none 0 0,.slice none 0 0,.slice none 0 0,.int .i64 0],rfl,uv _,⟨[.slice none 0 0],[.slice none 0 0,.slice none 0 0,.slice none 0 0,.int .i64 0],rfl,⟨none,0,rfl,dY _,mA _,.inl rfl⟩,⟨[.slice none 0 0],[.slice none 0 0,.slice none 0 0,.int .i64 0],rfl,⟨none,0,rfl,dY _,mA _,.inl rfl⟩,⟨[.slice none 0 0],[.slice none 0 0,.int .i64 0],rfl,⟨none,0,rfl,dY _,mA _,.inl rfl⟩,⟨[.slice none 0 0],[.int .i64 0],rfl,⟨none,0,rfl,dY _,mA _,.inl rfl⟩,rfl⟩⟩⟩⟩⟩⟩⟩⟩⟩⟩⟩
structure cm where
 Nodes:(List ay)
 deriving DecidableEq,Inhabited
def dW:Rp cm:=sa (ik aW) (fun x=>(x.Nodes))
theorem od:pY dW 0 (ik aW) (fun x=>x.Nodes):=dS
theorem Mq:j5 dW 0 (ik aW) (fun x y=>{x with Nodes:=y}):=dn ai (fun _ _=>rfl)
theorem tz: ∀S,dW.rc S [.slice none 0 0] ((⟨[]⟩:cm)):=fun _=>⟨none,0,rfl,dY _,mA _,.inl rfl⟩
structure aI where
 Logic:cm
 kinds:(List (List Int))
 first:(List Int)
 deriving DecidableEq,Inhabited
def bz:Rp aI:=sa (dI dW (dI (ik (ik (rI .i64))) (ik (rI .i64)))) (fun x=>(x.Logic,x.kinds,x.first))
theorem wB:pY bz 0 dW (fun x=>x.Logic):=(gI dS)
theorem H4:j5 bz 0 dW (fun x y=>{x with Logic:=y}):=dn fF (fun _ _=>rfl)
theorem IK:pY bz 1 (ik (ik (rI .i64))) (fun x=>x.kinds):=(gI (bt dS rfl))
theorem H3:j5 bz 1 (ik (ik (rI .i64))) (fun x y=>{x with kinds:=y}):=dn (bv fF rfl) (fun _ _=>rfl)
theorem Bn:pY bz 2 (ik (rI .i64)) (fun x=>x.first):=(bt (bt dS rfl) rfl)
theorem H2:j5 bz 2 (ik (rI .i64)) (fun x y=>{x with first:=y}):=dn (bv (bv ai rfl) rfl) (fun _ _=>rfl)
theorem Mb: ∀S,bz.rc S [.slice none 0 0,.slice none 0 0,.slice none 0 0] ((⟨(⟨[]⟩:cm),[],[]⟩:aI)):=fun _=>⟨[.slice none 0 0],[.slice none 0 0,.slice none 0 0],rfl,tz _,⟨[.slice none 0 0],[.slice none 0 0],rfl,⟨none,0,rfl,dY _,mA _,.inl rfl⟩,⟨none,0,rfl,dY _,mA _,.inl rfl⟩⟩⟩
structure kH where
 Tables:(List (List (List ac)))
 deriving DecidableEq,Inhabited
def qh:Rp kH:=sa (ik (ik (ik af))) (fun x=>(x.Tables))
theorem Cm:pY qh 0 (ik (ik (ik af))) (fun x=>x.Tables):=dS
theorem PU:j5 qh 0 (ik (ik (ik af))) (fun x y=>{x with Tables:=y}):=dn ai (fun _ _=>rfl)
theorem HN: ∀S,qh.rc S [.slice none 0 0] ((⟨[]⟩:kH)):=fun _=>⟨none,0,rfl,dY _,mA _,.inl rfl⟩
structure dh where
 Base:kH
 rows:(List (List (List ac)))
 width:(List Int)
 deriving DecidableEq,Inhabited
def eS:Rp dh:=sa (dI qh (dI (ik (ik (ik af))) (ik (rI .i64)))) (fun x=>(x.Base,x.rows,x.width))
theorem R9:pY eS 0 qh (fun x=>x.Base):=(gI dS)
theorem Ro:j5 eS 0 qh (fun x y=>{x with Base:=y}):=dn fF (fun _ _=>rfl)
theorem Rn:j5 eS 1 (ik (ik (ik af))) (fun x y=>{x with rows:=y}):=dn (bv fF rfl) (fun _ _=>rfl)
theorem Rm:j5 eS 2 (ik (rI .i64)) (fun x y=>{x with width:=y}):=dn (bv (bv ai rfl) rfl) (fun _ _=>rfl)
theorem XP: ∀S,eS.rc S [.slice none 0 0,.slice none 0 0,.slice none 0 0] ((⟨(⟨[]⟩:kH),[],[]⟩:dh)):=fun _=>⟨[.slice none 0 0],[.slice none 0 0,.slice none 0 0],rfl,HN _,⟨[.slice none 0 0],[.slice none 0 0],rfl,⟨none,0,rfl,dY _,mA _,.inl rfl⟩,⟨none,0,rfl,dY _,mA _,.inl rfl⟩⟩⟩
structure iB where
 Key:(List ac)
 Rows:(List (List ac))
 deriving DecidableEq,Inhabited
def gm:Rp iB:=sa (dI (ik af) (ik (ik af))) (fun x=>(x.Key,x.Rows))
theorem Nf:pY gm 0 (ik af) (fun x=>x.Key):=(gI dS)
theorem Mv:j5 gm 0 (ik af) (fun x y=>{x with Key:=y}):=dn fF (fun _ _=>rfl)
theorem Nc:pY gm 1 (ik (ik af)) (fun x=>x.Rows):=(bt dS rfl)
theorem Mu:j5 gm 1 (ik (ik af)) (fun x y=>{x with Rows:=y}):=dn (bv ai rfl) (fun _ _=>rfl)
theorem Eb: ∀S,gm.rc S [.slice none 0 0,.slice none 0 0] ((⟨[],[]⟩:iB)):=fun _=>⟨[.slice none 0 0],[.slice none 0 0],rfl,⟨none,0,rfl,dY _,mA _,.inl rfl⟩,⟨none,0,rfl,dY _,mA _,.inl rfl⟩⟩
structure cu where
 D:(List Int)
 Below:Bool
 deriving DecidableEq,Inhabited
def bU:Rp cu:=sa (dI (n8 (rI .u64) 8) rB) (fun x=>(x.D,x.Below))
theorem eM:pY bU 0 (n8 (rI .u64) 8) (fun x=>x.D):=(gI dS)
theorem qg:j5 bU 0 (n8 (rI .u64) 8) (fun x y=>{x with D:=y}):=dn fF (fun _ _=>rfl)
theorem mj:pY bU 8 rB (fun x=>x.Below):=(bt dS rfl)
theorem vq:j5 bU 8 rB (fun x y=>{x with Below:=y}):=dn (bv ai rfl) (fun _ _=>rfl)
theorem sD: ∀S,bU.rc S [.int .u64 0,.int .u64 0,.int .u64 0,.int .u64 0,.int .u64 0,.int .u64 0,.int .u64 0,.int .u64 0,.bool false] ((⟨(List.replicate 8 (0:Int)),false⟩:cu)):=fun _=>⟨[.int .u64 0,.int .u64 0,.int .u64 0,.int .u64 0,.int .u64 0,.int .u64 0,.int .u64 0,.int .u64 0],[.bool false],rfl,(BL (r:=(rI .u64)) 8 (fun _=>rfl) _),rfl⟩
structure LH where
 Nodes:Value
def pp:Rp LH:=sa rV (fun x=>(x.Nodes))
theorem IJ:pY pp 0 rV (fun x=>x.Nodes):=dS
def rb(y:cm)(v0:Value):LH:=⟨v0⟩
theorem Ma: ∀S,pp.rc S [.slice none 0 0] (rb ((⟨[]⟩:cm)) (bc none 0 0)):=fun _=>⟨rfl,rfl⟩
structure acD where
 Tables:Value
structure LI where
 Op:Int
 A:Int
 B:Int
 Table:Int
 Kinds:(List Int)
 Left:Bool
 Cond:bS
 Keys:(List Int)
 Aggs:Value
 Items:(List bS)
 Order:(List ig)
 Limit:Int
def EF:Rp LI:=sa (dI (rI .i64) (dI (rI .i64) (dI (rI .i64) (dI (rI .i64) (dI (ik (rI .i64)) (dI rB (dI ck (dI (ik (rI .i64)) (dI rV (dI (ik ck) (dI (ik hT) (rI .i64)))))))))))) (fun x=>(x.Op,x.A,x.B,x.Table,x.Kinds,x.Left,x.Cond,x.Keys,x.Aggs,x.Items,x.Order,x.Limit))
def EZ(y:ay)(v8:Value):LI:=⟨y.Op,y.A,y.B,y.Table,y.Kinds,y.Left,y.Cond,y.Keys,v8,y.Items,y.Order,y.Limit⟩
structure FK where
 Op:Int
 A:Int
 B:Int
 Table:Int
 Kinds:(List Int)
 Left:Bool
 Cond:bS
 Keys:(List Int)
 Aggs:Value
 Items:Value
 Order:(List ig)
 Limit:Int
def lr:Rp FK:=sa (dI (rI .i64) (dI (rI .i64) (dI (rI .i64) (dI (rI .i64) (dI (ik (rI .i64)) (dI rB (dI ck (dI (ik (rI .i64)) (dI rV (dI rV (dI (ik hT) (rI .i64)))))))))))) (fun x=>(x.Op,x.A,x.B,x.Table,x.Kinds,x.Left,x.Cond,x.Keys,x.Aggs,x.Items,x.Order,x.Limit))
theorem tZ:pY lr 8 rV (fun x=>x.Aggs):=(gI (bt (bt (bt (bt (bt (bt (bt (bt dS rfl) rfl) rfl) rfl) rfl) rfl) rfl) rfl))
theorem tY:pY lr 9 rV (fun x=>x.Items):=(gI (bt (bt (bt (bt (bt (bt (bt (bt (bt dS rfl) rfl) rfl) rfl) rfl) rfl) rfl) rfl) rfl))
def oE(y:ay)(v8:Value)(v9:Value):FK:=⟨y.Op,y.A,y.B,y.Table,y.Kinds,y.Left,y.Cond,y.Keys,v8,v9,y.Order,y.Limit⟩
theorem DB{S:SH}{cs:List Value}{y:cm}{v0:Value}{xs0:(List ay)}(k0:(ik aW).rc S [v0] xs0)(h:pp.rc S cs (rb y v0)):dW.rc S cs ((⟨xs0⟩:cm)):=by
 have h0:=h
 exact(by rw [h0.1];exact k0)
theorem BI{S:SH}{cs:List Value}{y:ay}{v8:Value}{v9:Value}{xs8:(List gv)}(k8:(ik eH).rc S [v8] xs8){xs9:(List bS)}(k9:(ik ck).rc S [v9] xs9)(h:lr.rc S cs (oE y v8 v9)):aW.rc S cs ((⟨y.Op,y.A,y.B,y.Table,y.Kinds,y.Left,y.Cond,y.Keys,xs8,xs9,y.Order,y.Limit⟩:ay)):=by
 obtain⟨a0,b0,e0,h0,a1,b1,e1,h1,a2,b2,e2,h2,a3,b3,e3,h3,a4,b4,e4,h4,a5,b5,e5,h5,a6,b6,e6,h6,a7,b7,e7,h7,a8,b8,e8,h8,a9,b9,e9,h9,a10,b10,e10,h10,h11⟩:=h
 exact⟨a0,b0,e0,h0,a1,b1,e1,h1,a2,b2,e2,h2,a3,b3,e3,h3,a4,b4,e4,h4,a5,b5,e5,h5,a6,b6,e6,h6,a7,b7,e7,h7,a8,b8,e8,(by rw [h8.1];exact k8),a9,b9,e9,(by rw [h9.1];exact k9),a10,b10,e10,h10,h11⟩
theorem xG(y:cm)(u:Value)(v:Value):qM pp pp 0 rV (rb y u) v (rb y v):=H1 (yC rfl) rfl
theorem Ab(y:ay)(v:Value):qM aW EF 8 rV (y) v (EZ y v):=H1 (lq (lq (lq (lq (lq (lq (lq (lq (N7 (yC rfl) rfl) rfl) rfl) rfl) rfl) rfl) rfl) rfl) rfl) rfl
theorem wk(y:ay)(v8:Value)(v:Value):qM EF lr 9 rV (EZ y v8) v (oE y v8 v):=H1 (lq (lq (lq (lq (lq (lq (lq (lq (lq (N7 (yC rfl) rfl) rfl) rfl) rfl) rfl) rfl) rfl) rfl) rfl) rfl) rfl
def dN(b:Nat)(x:aI)(i:OI):List OE:=[bx (rH bz [(1,bc (i.h 0).1 (i.h 0).2 x.kinds.length),(2,bc (i.h 1).1 (i.h 1).2 x.first.length)]) 115 b x,ez (ik (rI .i64)) 39 (i.h 0).1 (i.h 0).2 x.kinds,ez (rI .i64) 3 (i.h 1).1 (i.h 1).2 x.first]
def jE(b:Nat)(x:dh)(i:OI):List OE:=[bx (rH eS [(1,bc (i.h 0).1 (i.h 0).2 x.rows.length),(2,bc (i.h 1).1 (i.h 1).2 x.width.length)]) 96 b x,ez (ik (ik af)) 32 (i.h 0).1 (i.h 0).2 x.rows,ez (rI .i64) 3 (i.h 1).1 (i.h 1).2 x.width]
def gv2:(List ac):=[(⟨(1:Int),(0:Int),(0:Int),[]⟩:ac),(⟨(0:Int),(0:Int),(0:Int),[]⟩:ac),(⟨(1:Int),(1:Int),(0:Int),[]⟩:ac)]
theorem gm2:((2:Nat),([.int .i64 (1),.int .i64 (0),.int .u64 (0),.string ⟨([]:List UInt8).toArray⟩,.int .i64 (0),.int .i64 (0),.int .u64 (0),.string ⟨([]:List UInt8).toArray⟩,.int .i64 (1),.int .i64 (1),.int .u64 (0),.string ⟨([]:List UInt8).toArray⟩]:List Value))∈glob:=by simp [glob]
theorem gr2: ∀S,(n8 af 3).rc S ([.int .i64 (1),.int .i64 (0),.int .u64 (0),.string ⟨([]:List UInt8).toArray⟩,.int .i64 (0),.int .i64 (0),.int .u64 (0),.string ⟨([]:List UInt8).toArray⟩,.int .i64 (1),.int .i64 (1),.int .u64 (0),.string ⟨([]:List UInt8).toArray⟩]:List Value) gv2:=fun _=>⟨rfl,⟨[.int .i64 (1),.int .i64 (0),.int .u64 (0),.string ⟨([]:List UInt8).toArray⟩],[.int .i64 (0),.int .i64 (0),.int .u64 (0),.string ⟨([]:List UInt8).toArray⟩,.int .i64 (1),.int .i64 (1),.int .u64 (0),.string ⟨([]:List UInt8).toArray⟩],rfl,⟨[.int .i64 (1)],[.int .i64 (0),.int .u64 (0),.string ⟨([]:List UInt8).toArray⟩],rfl,rfl,⟨[.int .i64 (0)],[.int .u64 (0),.string ⟨([]:List UInt8).toArray⟩],rfl,rfl,⟨[.int .u64 (0)],[.string ⟨([]:List UInt8).toArray⟩],rfl,rfl,rfl⟩⟩⟩,⟨[.int .i64 (0),.int .i64 (0),.int .u64 (0),.string ⟨([]:List UInt8).toArray⟩],[.int .i64 (1),.int .i64 (1),.int .u64 (0),.string ⟨([]:List UInt8).toArray⟩],rfl,⟨[.int .i64 (0)],[.int .i64 (0),.int .u64 (0),.string ⟨([]:List UInt8).toArray⟩],rfl,rfl,⟨[.int .i64 (0)],[.int .u64 (0),.string ⟨([]:List UInt8).toArray⟩],rfl,rfl,⟨[.int .u64 (0)],[.string ⟨([]:List UInt8).toArray⟩],rfl,rfl,rfl⟩⟩⟩,⟨[.int .i64 (1),.int .i64 (1),.int .u64 (0),.string ⟨([]:List UInt8).toArray⟩],[],rfl,⟨[.int .i64 (1)],[.int .i64 (1),.int .u64 (0),.string ⟨([]:List UInt8).toArray⟩],rfl,rfl,⟨[.int .i64 (1)],[.int .u64 (0),.string ⟨([]:List UInt8).toArray⟩],rfl,rfl,⟨[.int .u64 (0)],[.string ⟨([]:List UInt8).toArray⟩],rfl,rfl,rfl⟩⟩⟩,(rfl:_=[])⟩⟩⟩⟩

end Go.Proofs.YtfhhakidodmdfaaGreatDoor

