/- cT of this claim: D. -/
import Derived.Test.YtfhhakidodmdfaaGreatDoorJeV3
import Derived.Test.YtfhhakidodmdfaaGreatDoorJeV4
set_option linter.all false
namespace Go.Proofs.YtfhhakidodmdfaaGreatDoor
open Go

structure ac where
 Kind:Int
 N:Int
 U:Int
 S:wF
 deriving DecidableEq,Inhabited
def af:Rp ac:=px (cQ (rI .i64) (cQ (rI .i64) (cQ (rI .u64) rS))) (fun x=>(x.Kind,x.N,x.U,x.S))
theorem cS:pC af 0 (rI .i64) (fun x=>x.Kind):=(gv dI)
theorem nI:jR af 0 (rI .i64) (fun x y=>{x with Kind:=y}):=dx fz (fun _ _=>rfl)
theorem fk:pC af 1 (rI .i64) (fun x=>x.N):=(gv (bf dI rfl))
theorem oZ:jR af 1 (rI .i64) (fun x y=>{x with N:=y}):=dx (bj fz rfl) (fun _ _=>rfl)
theorem qu:pC af 2 (rI .u64) (fun x=>x.U):=(gv (bf (bf dI rfl) rfl))
theorem zw:jR af 2 (rI .u64) (fun x y=>{x with U:=y}):=dx (bj (bj fz rfl) rfl) (fun _ _=>rfl)
theorem nQ:pC af 3 rS (fun x=>x.S):=(bf (bf (bf dI rfl) rfl) rfl)
theorem LP:jR af 3 rS (fun x y=>{x with S:=y}):=dx (bj (bj (bj an rfl) rfl) rfl) (fun _ _=>rfl)
theorem bh: ∀S,af.rc S [.int .i64 0,.int .i64 0,.int .u64 0,.string ⟨#[]⟩] ((⟨(0:Int),(0:Int),(0:Int),[]⟩:ac)):=fun _=>⟨[.int .i64 0],[.int .i64 0,.int .u64 0,.string ⟨#[]⟩],rfl,rfl,⟨[.int .i64 0],[.int .u64 0,.string ⟨#[]⟩],rfl,rfl,⟨[.int .u64 0],[.string ⟨#[]⟩],rfl,rfl,rfl⟩⟩⟩
structure bm where
 Tag:Int
 L:Int
 R:Int
 Col:Int
 Value:ac
 deriving DecidableEq,Inhabited
def bN:Rp bm:=px (cQ (rI .i64) (cQ (rI .i64) (cQ (rI .i64) (cQ (rI .i64) af)))) (fun x=>(x.Tag,x.L,x.R,x.Col,x.Value))
theorem ij:pC bN 0 (rI .i64) (fun x=>x.Tag):=(gv dI)
theorem LZ:jR bN 0 (rI .i64) (fun x y=>{x with Tag:=y}):=dx fz (fun _ _=>rfl)
theorem MC:pC bN 1 (rI .i64) (fun x=>x.L):=(gv (bf dI rfl))
theorem LY:jR bN 1 (rI .i64) (fun x y=>{x with L:=y}):=dx (bj fz rfl) (fun _ _=>rfl)
theorem MB:pC bN 2 (rI .i64) (fun x=>x.R):=(gv (bf (bf dI rfl) rfl))
theorem LX:jR bN 2 (rI .i64) (fun x y=>{x with R:=y}):=dx (bj (bj fz rfl) rfl) (fun _ _=>rfl)
theorem o8:pC bN 3 (rI .i64) (fun x=>x.Col):=(gv (bf (bf (bf dI rfl) rfl) rfl))
theorem LW:jR bN 3 (rI .i64) (fun x y=>{x with Col:=y}):=dx (bj (bj (bj fz rfl) rfl) rfl) (fun _ _=>rfl)
theorem qv:pC bN 4 af (fun x=>x.Value):=(bf (bf (bf (bf dI rfl) rfl) rfl) rfl)
theorem uJ: ∀S,bN.rc S [.int .i64 0,.int .i64 0,.int .i64 0,.int .i64 0,.int .i64 0,.int .i64 0,.int .u64 0,.string ⟨#[]⟩] ((⟨(0:Int),(0:Int),(0:Int),(0:Int),(⟨(0:Int),(0:Int),(0:Int),[]⟩:ac)⟩:bm)):=fun _=>⟨[.int .i64 0],[.int .i64 0,.int .i64 0,.int .i64 0,.int .i64 0,.int .i64 0,.int .u64 0,.string ⟨#[]⟩],rfl,rfl,⟨[.int .i64 0],[.int .i64 0,.int .i64 0,.int .i64 0,.int .i64 0,.int .u64 0,.string ⟨#[]⟩],rfl,rfl,⟨[.int .i64 0],[.int .i64 0,.int .i64 0,.int .i64 0,.int .u64 0,.string ⟨#[]⟩],rfl,rfl,⟨[.int .i64 0],[.int .i64 0,.int .i64 0,.int .u64 0,.string ⟨#[]⟩],rfl,rfl,bh _⟩⟩⟩⟩
structure bK where
 Nodes:(List bm)
 deriving DecidableEq,Inhabited
def cm:Rp bK:=px (fH bN) (fun x=>(x.Nodes))
theorem lO:pC cm 0 (fH bN) (fun x=>x.Nodes):=dI
theorem xU:jR cm 0 (fH bN) (fun x y=>{x with Nodes:=y}):=dx an (fun _ _=>rfl)
theorem rG: ∀S,cm.rc S [.slice none 0 0] ((⟨[]⟩:bK)):=fun _=>⟨none,0,rfl,dn _,lw _,.inl rfl⟩
structure gM where
 Tag:Int
 Arg:bK
 deriving DecidableEq,Inhabited
def fi:Rp gM:=px (cQ (rI .i64) cm) (fun x=>(x.Tag,x.Arg))
theorem ta:pC fi 0 (rI .i64) (fun x=>x.Tag):=(gv dI)
theorem JD:jR fi 0 (rI .i64) (fun x y=>{x with Tag:=y}):=dx fz (fun _ _=>rfl)
theorem vf:pC fi 1 cm (fun x=>x.Arg):=(bf dI rfl)
theorem JC:jR fi 1 cm (fun x y=>{x with Arg:=y}):=dx (bj an rfl) (fun _ _=>rfl)
theorem DK: ∀S,fi.rc S [.int .i64 0,.slice none 0 0] ((⟨(0:Int),(⟨[]⟩:bK)⟩:gM)):=fun _=>⟨[.int .i64 0],[.slice none 0 0],rfl,rfl,rG _⟩
structure gE where
 Col:Int
 Desc:Bool
 deriving DecidableEq,Inhabited
def gA:Rp gE:=px (cQ (rI .i64) rB) (fun x=>(x.Col,x.Desc))
theorem AW:pC gA 0 (rI .i64) (fun x=>x.Col):=(gv dI)
theorem RE:pC gA 1 rB (fun x=>x.Desc):=(bf dI rfl)
theorem WR: ∀S,gA.rc S [.int .i64 0,.bool false] ((⟨(0:Int),false⟩:gE)):=fun _=>⟨[.int .i64 0],[.bool false],rfl,rfl,rfl⟩
structure ak where
 Op:Int
 A:Int
 B:Int
 Table:Int
 Kinds:(List Int)
 Left:Bool
 Cond:bK
 Keys:(List Int)
 Aggs:(List gM)
 Items:(List bK)
 Order:(List gE)
 Limit:Int
 deriving DecidableEq,Inhabited
def aI:Rp ak:=px (cQ (rI .i64) (cQ (rI .i64) (cQ (rI .i64) (cQ (rI .i64) (cQ (fH (rI .i64)) (cQ rB (cQ cm (cQ (fH (rI .i64)) (cQ (fH fi) (cQ (fH cm) (cQ (fH gA) (rI .i64)))))))))))) (fun x=>(x.Op,x.A,x.B,x.Table,x.Kinds,x.Left,x.Cond,x.Keys,x.Aggs,x.Items,x.Order,x.Limit))
theorem nU:pC aI 0 (rI .i64) (fun x=>x.Op):=(gv dI)
theorem D9:jR aI 0 (rI .i64) (fun x y=>{x with Op:=y}):=dx fz (fun _ _=>rfl)
theorem dR:pC aI 1 (rI .i64) (fun x=>x.A):=(gv (bf dI rfl))
theorem D8:jR aI 1 (rI .i64) (fun x y=>{x with A:=y}):=dx (bj fz rfl) (fun _ _=>rfl)
theorem km:pC aI 2 (rI .i64) (fun x=>x.B):=(gv (bf (bf dI rfl) rfl))
theorem zz:jR aI 2 (rI .i64) (fun x y=>{x with B:=y}):=dx (bj (bj fz rfl) rfl) (fun _ _=>rfl)
theorem ln:pC aI 3 (rI .i64) (fun x=>x.Table):=(gv (bf (bf (bf dI rfl) rfl) rfl))
theorem LT:jR aI 3 (rI .i64) (fun x y=>{x with Table:=y}):=dx (bj (bj (bj fz rfl) rfl) rfl) (fun _ _=>rfl)
theorem nT:pC aI 4 (fH (rI .i64)) (fun x=>x.Kinds):=(gv (bf (bf (bf (bf dI rfl) rfl) rfl) rfl))
theorem zy:jR aI 4 (fH (rI .i64)) (fun x y=>{x with Kinds:=y}):=dx (bj (bj (bj (bj fz rfl) rfl) rfl) rfl) (fun _ _=>rfl)
theorem EY:pC aI 5 rB (fun x=>x.Left):=(gv (bf (bf (bf (bf (bf dI rfl) rfl) rfl) rfl) rfl))
theorem LS:jR aI 5 rB (fun x y=>{x with Left:=y}):=dx (bj (bj (bj (bj (bj fz rfl) rfl) rfl) rfl) rfl) (fun _ _=>rfl)
theorem nS:pC aI 6 cm (fun x=>x.Cond):=(gv (bf (bf (bf (bf (bf (bf dI rfl) rfl) rfl) rfl) rfl) rfl))
theorem zx:jR aI 6 cm (fun x y=>{x with Cond:=y}):=dx (bj (bj (bj (bj (bj (bj fz rfl) rfl) rfl) rfl) rfl) rfl) (fun _ _=>rfl)
theorem mD:pC aI 7 (fH (rI .i64)) (fun x=>x.Keys):=(gv (bf (bf (bf (bf (bf (bf (bf dI rfl) rfl) rfl) rfl) rfl) rfl) rfl))
theorem D7:jR aI 7 (fH (rI .i64)) (fun x y=>{x with Keys:=y}):=dx (bj (bj (bj (bj (bj (bj (bj fz rfl) rfl) rfl) rfl) rfl) rfl) rfl) (fun _ _=>rfl)
theorem nR:pC aI 8 (fH fi) (fun x=>x.Aggs):=(gv (bf (bf (bf (bf (bf (bf (bf (bf dI rfl) rfl) rfl) rfl) rfl) rfl) rfl) rfl))
theorem D6:jR aI 8 (fH fi) (fun x y=>{x with Aggs:=y}):=dx (bj (bj (bj (bj (bj (bj (bj (bj fz rfl) rfl) rfl) rfl) rfl) rfl) rfl) rfl) (fun _ _=>rfl)
theorem mC:pC aI 9 (fH cm) (fun x=>x.Items):=(gv (bf (bf (bf (bf (bf (bf (bf (bf (bf dI rfl) rfl) rfl) rfl) rfl) rfl) rfl) rfl) rfl))
theorem LR:jR aI 9 (fH cm) (fun x y=>{x with Items:=y}):=dx (bj (bj (bj (bj (bj (bj (bj (bj (bj fz rfl) rfl) rfl) rfl) rfl) rfl) rfl) rfl) rfl) (fun _ _=>rfl)
theorem po:pC aI 10 (fH gA) (fun x=>x.Order):=(gv (bf (bf (bf (bf (bf (bf (bf (bf (bf (bf dI rfl) rfl) rfl) rfl) rfl) rfl) rfl) rfl) rfl) rfl))
theorem Cy:jR aI 10 (fH gA) (fun x y=>{x with Order:=y}):=dx (bj (bj (bj (bj (bj (bj (bj (bj (bj (bj fz rfl) rfl) rfl) rfl) rfl) rfl) rfl) rfl) rfl) rfl) (fun _ _=>rfl)
theorem ub:pC aI 11 (rI .i64) (fun x=>x.Limit):=(bf (bf (bf (bf (bf (bf (bf (bf (bf (bf (bf dI rfl) rfl) rfl) rfl) rfl) rfl) rfl) rfl) rfl) rfl) rfl)
theorem JB:jR aI 11 (rI .i64) (fun x y=>{x with Limit:=y}):=dx (bj (bj (bj (bj (bj (bj (bj (bj (bj (bj (bj an rfl) rfl) rfl) rfl) rfl) rfl) rfl) rfl) rfl) rfl) rfl) (fun _ _=>rfl)
theorem nC: ∀S,aI.rc S [.int .i64 0,.int .i64 0,.int .i64 0,.int .i64 0,.slice none 0 0,.bool false,.slice none 0 0,.slice none 0 0,.slice none 0 0,.slice none 0 0,.slice none 0 0,.int .i64 0] ((⟨(0:Int),(0:Int),(0:Int),(0:Int),[],false,(⟨[]⟩:bK),[],[],[],[],(0:Int)⟩:ak)):=fun _=>⟨[.int .i64 0],[.int .i64 0,.int .i64 0,.int .i64 0,.slice none 0 0,.bool false,.slice none 0 0,.slice none 0 0,.slice none 0 0,.slice none 0 0,.slice none 0 0,.int .i64 0],rfl,rfl,⟨[.int .i64 0],[.int .i64 0,.int .i64 0,.slice none 0 0,.bool false,.slice none 0 0,.slice none 0 0,.slice none 0 0,.slice none 0 0,.slice none 0 0,.int .i64 0],rfl,rfl,⟨[.int .i64 0],[.int .i64 0,.slice none 0 0,.bool false,.slice none 0 0,.slice none 0 0,.slice none 0 0,.slice none 0 0,.slice none 0 0,.int .i64 0],rfl,rfl,⟨[.int .i64 0],[.slice none 0 0,.bool false,.slice none 0 0,.slice none 0 0,.slice none 0 0,.slice none 0 0,.slice none 0 0,.int .i64 0],rfl,rfl,⟨[.slice none 0 0],[.bool false,.slice none 0 0,.slice none 0 0,.slice none 0 0,.slice none 0 0,.slice none 0 0,.int .i64 0],rfl,⟨none,0,rfl,dn _,lw _,.inl rfl⟩,⟨[.bool false],[.slice none 0 0,.slice none 0 0,.slice none 0 0,.slice none 0 0,.slice none 0 0,.int .i64 0],rfl,rfl,⟨[.slice none 0 0],[.slice none 0 0,.slice none 0 0,.slice none 0 0,.slice none 0 0,.int .i64 0],rfl,rG _,⟨[.slice none 0 0],[.slice none 0 0,.slice none 0 0,.slice none 0 0,.int .i64 0],rfl,⟨none,0,rfl,dn _,lw _,.inl rfl⟩,⟨[.slice none 0 0],[.slice none 0 0,.slice none 0 0,.int .i64 0],rfl,⟨none,0,rfl,dn _,lw _,.inl rfl⟩,⟨[.slice none 0 0],[.slice none 0 0,.int .i64 0],rfl,⟨none,0,rfl,dn _,lw _,.inl rfl⟩,⟨[.slice none 0 0],[.int .i64 0],rfl,⟨none,0,rfl,dn _,lw _,.inl rfl⟩,rfl⟩⟩⟩⟩⟩⟩⟩⟩⟩⟩⟩
structure bE where
 Nodes:(List ak)
 deriving DecidableEq,Inhabited
def cD:Rp bE:=px (fH aI) (fun x=>(x.Nodes))
theorem kj:pC cD 0 (fH aI) (fun x=>x.Nodes):=dI
theorem LQ:jR cD 0 (fH aI) (fun x y=>{x with Nodes:=y}):=dx an (fun _ _=>rfl)
theorem sE: ∀S,cD.rc S [.slice none 0 0] ((⟨[]⟩:bE)):=fun _=>⟨none,0,rfl,dn _,lw _,.inl rfl⟩
structure aC where
 Logic:bE
 kinds:(List (List Int))
 first:(List Int)
 deriving DecidableEq,Inhabited
def bk:Rp aC:=px (cQ cD (cQ (fH (fH (rI .i64))) (fH (rI .i64)))) (fun x=>(x.Logic,x.kinds,x.first))
theorem vR:pC bk 0 cD (fun x=>x.Logic):=(gv dI)
theorem HO:jR bk 0 cD (fun x y=>{x with Logic:=y}):=dx fz (fun _ _=>rfl)
theorem Iq:pC bk 1 (fH (fH (rI .i64))) (fun x=>x.kinds):=(gv (bf dI rfl))
theorem HN:jR bk 1 (fH (fH (rI .i64))) (fun x y=>{x with kinds:=y}):=dx (bj fz rfl) (fun _ _=>rfl)
theorem AV:pC bk 2 (fH (rI .i64)) (fun x=>x.first):=(bf (bf dI rfl) rfl)
theorem HM:jR bk 2 (fH (rI .i64)) (fun x y=>{x with first:=y}):=dx (bj (bj an rfl) rfl) (fun _ _=>rfl)
theorem LA: ∀S,bk.rc S [.slice none 0 0,.slice none 0 0,.slice none 0 0] ((⟨(⟨[]⟩:bE),[],[]⟩:aC)):=fun _=>⟨[.slice none 0 0],[.slice none 0 0,.slice none 0 0],rfl,sE _,⟨[.slice none 0 0],[.slice none 0 0],rfl,⟨none,0,rfl,dn _,lw _,.inl rfl⟩,⟨none,0,rfl,dn _,lw _,.inl rfl⟩⟩⟩
structure cB where
 Tables:(List (List (List ac)))
 deriving DecidableEq,Inhabited
def i6:Rp cB:=px (fH (fH (fH af))) (fun x=>(x.Tables))
theorem pp:pC i6 0 (fH (fH (fH af))) (fun x=>x.Tables):=dI
theorem Pk:jR i6 0 (fH (fH (fH af))) (fun x y=>{x with Tables:=y}):=dx an (fun _ _=>rfl)
theorem Ht: ∀S,i6.rc S [.slice none 0 0] ((⟨[]⟩:cB)):=fun _=>⟨none,0,rfl,dn _,lw _,.inl rfl⟩
structure cW where
 Base:cB
 rows:(List (List (List ac)))
 width:(List Int)
 deriving DecidableEq,Inhabited
def ea:Rp cW:=px (cQ i6 (cQ (fH (fH (fH af))) (fH (rI .i64)))) (fun x=>(x.Base,x.rows,x.width))
theorem RD:pC ea 0 i6 (fun x=>x.Base):=(gv dI)
theorem QR:jR ea 0 i6 (fun x y=>{x with Base:=y}):=dx fz (fun _ _=>rfl)
theorem QQ:jR ea 1 (fH (fH (fH af))) (fun x y=>{x with rows:=y}):=dx (bj fz rfl) (fun _ _=>rfl)
theorem QP:jR ea 2 (fH (rI .i64)) (fun x y=>{x with width:=y}):=dx (bj (bj an rfl) rfl) (fun _ _=>rfl)
theorem WQ: ∀S,ea.rc S [.slice none 0 0,.slice none 0 0,.slice none 0 0] ((⟨(⟨[]⟩:cB),[],[]⟩:cW)):=fun _=>⟨[.slice none 0 0],[.slice none 0 0,.slice none 0 0],rfl,Ht _,⟨[.slice none 0 0],[.slice none 0 0],rfl,⟨none,0,rfl,dn _,lw _,.inl rfl⟩,⟨none,0,rfl,dn _,lw _,.inl rfl⟩⟩⟩
structure g9 where
 Key:(List ac)
 Rows:(List (List ac))
 deriving DecidableEq,Inhabited
def fO:Rp g9:=px (cQ (fH af) (fH (fH af))) (fun x=>(x.Key,x.Rows))
theorem MA:pC fO 0 (fH af) (fun x=>x.Key):=(gv dI)
theorem LV:jR fO 0 (fH af) (fun x y=>{x with Key:=y}):=dx fz (fun _ _=>rfl)
theorem Mz:pC fO 1 (fH (fH af)) (fun x=>x.Rows):=(bf dI rfl)
theorem LU:jR fO 1 (fH (fH af)) (fun x y=>{x with Rows:=y}):=dx (bj an rfl) (fun _ _=>rfl)
theorem DI: ∀S,fO.rc S [.slice none 0 0,.slice none 0 0] ((⟨[],[]⟩:g9)):=fun _=>⟨[.slice none 0 0],[.slice none 0 0],rfl,⟨none,0,rfl,dn _,lw _,.inl rfl⟩,⟨none,0,rfl,dn _,lw _,.inl rfl⟩⟩
structure eF where
 D:(List Int)
 Below:Bool
 deriving DecidableEq,Inhabited
structure Li where
 Nodes:Value
def o0:Rp Li:=px rV (fun x=>(x.Nodes))
theorem Ip:pC o0 0 rV (fun x=>x.Nodes):=dI
def qq(y:bE)(v0:Value):Li:=⟨v0⟩
theorem Lz: ∀S,o0.rc S [.slice none 0 0] (qq ((⟨[]⟩:bE)) (aO none 0 0)):=fun _=>⟨rfl,rfl⟩
structure OX where
 Tables:Value
def kK:Rp OX:=px rV (fun x=>(x.Tables))
theorem CJ:pC kK 0 rV (fun x=>x.Tables):=dI
def lM(y:cB)(v0:Value):OX:=⟨v0⟩
theorem O9: ∀S,kK.rc S [.slice none 0 0] (lM ((⟨[]⟩:cB)) (aO none 0 0)):=fun _=>⟨rfl,rfl⟩
structure Lj where
 Op:Int
 A:Int
 B:Int
 Table:Int
 Kinds:(List Int)
 Left:Bool
 Cond:bK
 Keys:(List Int)
 Aggs:Value
 Items:(List bK)
 Order:(List gE)
 Limit:Int
def Eh:Rp Lj:=px (cQ (rI .i64) (cQ (rI .i64) (cQ (rI .i64) (cQ (rI .i64) (cQ (fH (rI .i64)) (cQ rB (cQ cm (cQ (fH (rI .i64)) (cQ rV (cQ (fH cm) (cQ (fH gA) (rI .i64)))))))))))) (fun x=>(x.Op,x.A,x.B,x.Table,x.Kinds,x.Left,x.Cond,x.Keys,x.Aggs,x.Items,x.Order,x.Limit))
def EK(y:ak)(v8:Value):Lj:=⟨y.Op,y.A,y.B,y.Table,y.Kinds,y.Left,y.Cond,y.Keys,v8,y.Items,y.Order,y.Limit⟩
structure Ft where
 Op:Int
 A:Int
 B:Int
 Table:Int
 Kinds:(List Int)
 Left:Bool
 Cond:bK
 Keys:(List Int)
 Aggs:Value
 Items:Value
 Order:(List gE)
 Limit:Int
def kV:Rp Ft:=px (cQ (rI .i64) (cQ (rI .i64) (cQ (rI .i64) (cQ (rI .i64) (cQ (fH (rI .i64)) (cQ rB (cQ cm (cQ (fH (rI .i64)) (cQ rV (cQ rV (cQ (fH gA) (rI .i64)))))))))))) (fun x=>(x.Op,x.A,x.B,x.Table,x.Kinds,x.Left,x.Cond,x.Keys,x.Aggs,x.Items,x.Order,x.Limit))
theorem s9:pC kV 8 rV (fun x=>x.Aggs):=(gv (bf (bf (bf (bf (bf (bf (bf (bf dI rfl) rfl) rfl) rfl) rfl) rfl) rfl) rfl))
theorem s8:pC kV 9 rV (fun x=>x.Items):=(gv (bf (bf (bf (bf (bf (bf (bf (bf (bf dI rfl) rfl) rfl) rfl) rfl) rfl) rfl) rfl) rfl))
def ol(y:ak)(v8:Value)(v9:Value):Ft:=⟨y.Op,y.A,y.B,y.Table,y.Kinds,y.Left,y.Cond,y.Keys,v8,v9,y.Order,y.Limit⟩
theorem C6{S:SH}{cs:List Value}{y:bE}{v0:Value}{xs0:(List ak)}(k0:(fH aI).rc S [v0] xs0)(h:o0.rc S cs (qq y v0)):cD.rc S cs ((⟨xs0⟩:bE)):=by
 have h0:=h
 exact(by rw [h0.1];exact k0)
theorem Fe{S:SH}{cs:List Value}{y:cB}{v0:Value}{xs0:(List (List (List ac)))}(k0:(fH (fH (fH af))).rc S [v0] xs0)(h:kK.rc S cs (lM y v0)):i6.rc S cs ((⟨xs0⟩:cB)):=by
 have h0:=h
 exact(by rw [h0.1];exact k0)
theorem Be{S:SH}{cs:List Value}{y:ak}{v8:Value}{v9:Value}{xs8:(List gM)}(k8:(fH fi).rc S [v8] xs8){xs9:(List bK)}(k9:(fH cm).rc S [v9] xs9)(h:kV.rc S cs (ol y v8 v9)):aI.rc S cs ((⟨y.Op,y.A,y.B,y.Table,y.Kinds,y.Left,y.Cond,y.Keys,xs8,xs9,y.Order,y.Limit⟩:ak)):=by
 obtain⟨a0,b0,e0,h0,a1,b1,e1,h1,a2,b2,e2,h2,a3,b3,e3,h3,a4,b4,e4,h4,a5,b5,e5,h5,a6,b6,e6,h6,a7,b7,e7,h7,a8,b8,e8,h8,a9,b9,e9,h9,a10,b10,e10,h10,h11⟩:=h
 exact⟨a0,b0,e0,h0,a1,b1,e1,h1,a2,b2,e2,h2,a3,b3,e3,h3,a4,b4,e4,h4,a5,b5,e5,h5,a6,b6,e6,h6,a7,b7,e7,h7,a8,b8,e8,(by rw [h8.1];exact k8),a9,b9,e9,(by rw [h9.1];exact k9),a10,b10,e10,h10,h11⟩
theorem w7(y:bE)(u:Value)(v:Value):uk o0 o0 0 rV (qq y u) v (qq y v):=Da (uQ rfl) rfl
theorem rA(y:cB)(u:Value)(v:Value):uk kK kK 0 rV (lM y u) v (lM y v):=Da (uQ rfl) rfl
theorem zr(y:ak)(v:Value):uk aI Eh 8 rV (y) v (EK y v):=Da (kU (kU (kU (kU (kU (kU (kU (kU (NI (uQ rfl) rfl) rfl) rfl) rfl) rfl) rfl) rfl) rfl) rfl) rfl
theorem vD(y:ak)(v8:Value)(v:Value):uk Eh kV 9 rV (EK y v8) v (ol y v8 v):=Da (kU (kU (kU (kU (kU (kU (kU (kU (kU (NI (uQ rfl) rfl) rfl) rfl) rfl) rfl) rfl) rfl) rfl) rfl) rfl) rfl
def dC(b:Nat)(x:aC)(i:OI):List OE:=[bx (rH bk [(1,aO (i.h 0).1 (i.h 0).2 x.kinds.length),(2,aO (i.h 1).1 (i.h 1).2 x.first.length)]) 115 b x,dS (fH (rI .i64)) 39 (i.h 0).1 (i.h 0).2 x.kinds,dS (rI .i64) 3 (i.h 1).1 (i.h 1).2 x.first]
def jh(b:Nat)(x:cW)(i:OI):List OE:=[bx (rH ea [(1,aO (i.h 0).1 (i.h 0).2 x.rows.length),(2,aO (i.h 1).1 (i.h 1).2 x.width.length)]) 96 b x,dS (fH (fH af)) 32 (i.h 0).1 (i.h 0).2 x.rows,dS (rI .i64) 3 (i.h 1).1 (i.h 1).2 x.width]
def gv2:(List ac):=[(⟨(1:Int),(0:Int),(0:Int),[]⟩:ac),(⟨(0:Int),(0:Int),(0:Int),[]⟩:ac),(⟨(1:Int),(1:Int),(0:Int),[]⟩:ac)]
theorem gm2:((2:Nat),([.int .i64 (1),.int .i64 (0),.int .u64 (0),.string ⟨([]:List UInt8).toArray⟩,.int .i64 (0),.int .i64 (0),.int .u64 (0),.string ⟨([]:List UInt8).toArray⟩,.int .i64 (1),.int .i64 (1),.int .u64 (0),.string ⟨([]:List UInt8).toArray⟩]:List Value))∈glob:=by simp [glob]
theorem gr2: ∀S,(uy af 3).rc S ([.int .i64 (1),.int .i64 (0),.int .u64 (0),.string ⟨([]:List UInt8).toArray⟩,.int .i64 (0),.int .i64 (0),.int .u64 (0),.string ⟨([]:List UInt8).toArray⟩,.int .i64 (1),.int .i64 (1),.int .u64 (0),.string ⟨([]:List UInt8).toArray⟩]:List Value) gv2:=fun _=>⟨rfl,⟨[.int .i64 (1),.int .i64 (0),.int .u64 (0),.string ⟨([]:List UInt8).toArray⟩],[.int .i64 (0),.int .i64 (0),.int .u64 (0),.string ⟨([]:List UInt8).toArray⟩,.int .i64 (1),.int .i64 (1),.int .u64 (0),.string ⟨([]:List UInt8).toArray⟩],rfl,⟨[.int .i64 (1)],[.int .i64 (0),.int .u64 (0),.string ⟨([]:List UInt8).toArray⟩],rfl,rfl,⟨[.int .i64 (0)],[.int .u64 (0),.string ⟨([]:List UInt8).toArray⟩],rfl,rfl,⟨[.int .u64 (0)],[.string ⟨([]:List UInt8).toArray⟩],rfl,rfl,rfl⟩⟩⟩,⟨[.int .i64 (0),.int .i64 (0),.int .u64 (0),.string ⟨([]:List UInt8).toArray⟩],[.int .i64 (1),.int .i64 (1),.int .u64 (0),.string ⟨([]:List UInt8).toArray⟩],rfl,⟨[.int .i64 (0)],[.int .i64 (0),.int .u64 (0),.string ⟨([]:List UInt8).toArray⟩],rfl,rfl,⟨[.int .i64 (0)],[.int .u64 (0),.string ⟨([]:List UInt8).toArray⟩],rfl,rfl,⟨[.int .u64 (0)],[.string ⟨([]:List UInt8).toArray⟩],rfl,rfl,rfl⟩⟩⟩,⟨[.int .i64 (1),.int .i64 (1),.int .u64 (0),.string ⟨([]:List UInt8).toArray⟩],[],rfl,⟨[.int .i64 (1)],[.int .i64 (1),.int .u64 (0),.string ⟨([]:List UInt8).toArray⟩],rfl,rfl,⟨[.int .i64 (1)],[.int .u64 (0),.string ⟨([]:List UInt8).toArray⟩],rfl,rfl,⟨[.int .u64 (0)],[.string ⟨([]:List UInt8).toArray⟩],rfl,rfl,rfl⟩⟩⟩,(rfl:_=[])⟩⟩⟩⟩

end Go.Proofs.YtfhhakidodmdfaaGreatDoor

