/- du of this claim: T. -/
import Derived.Test.YthbdkceckjihgaaGreatDoorBbD
import Derived.Test.YthbdkceckjihgaaGreatDoorProg
import Derived.Test.YthbdkceckjihgaaGreatDoorBbS
import Derived.Test.YthbdkceckjihgaaGreatDoorBbV4
import Derived.Shelf.Strings.CaseAny
import Derived.KernelRfl
set_option linter.all false
namespace Go.Proofs.YthbdkceckjihgaaGreatDoor
open Go
noncomputable abbrev aZ:=Tryz.prog
def fH:= @Tryz.underlying35
def gx:= @Tryz.underlying9
def mz:= @Tryz.underlying60
def mX:= @Tryz.underlying64
def oZ:= @Tryz.underlying50
def p8:= @Tryz.underlying108
def qK:= @Tryz.underlying34
def rs:= @Tryz.underlying46
def sF:= @Tryz.underlying22
def sE:= @Tryz.underlying63
def wL:= @Tryz.underlying28
def yW:= @Tryz.underlying3
def yV:= @Tryz.underlying49
def y8:= @Tryz.underlying53
def AJ:= @Tryz.underlying59
def AH:= @Tryz.underlying29
def Bm:= @Tryz.underlying33
def Cg:= @Tryz.underlying36
def FS:= @Tryz.underlying4
def FR:= @Tryz.underlying80
def FZ:= @Tryz.underlying230
def EC:= @Tryz.underlying280
def FY:= @Tryz.underlying164
def Ir:= @Tryz.underlying135
def OM:= @Tryz.underlying5
def KF:= @Tryz.underlying242

def mixed:Tryz.prog.follows .mixedOrders=true:=by kernel_rfl
def Uy:TI aZ 2 1 8 false [.int .i64 0]:=⟨by kernel_rfl,by kernel_rfl⟩
def cF:TI aZ 3 1 8 false [.int .i64 0]:=⟨by kernel_rfl,by kernel_rfl⟩
def yG:TI aZ 4 1 1 false [.bool false]:=⟨by kernel_rfl,by kernel_rfl⟩
def X1:TI aZ 5 1 1 false [.int .u8 0]:=⟨by kernel_rfl,by kernel_rfl⟩
def jG:TI aZ 9 1 16 false [.string ⟨#[]⟩]:=⟨by kernel_rfl,by kernel_rfl⟩
def vV:TI aZ 22 1 24 false [.slice none 0 0]:=⟨by kernel_rfl,by kernel_rfl⟩
def qa:TI aZ 24 1 24 true [.slice none 0 0]:=⟨by kernel_rfl,by kernel_rfl⟩
def E8:TI aZ 28 1 24 false [.slice none 0 0]:=⟨by kernel_rfl,by kernel_rfl⟩
def H0:TI aZ 29 1 24 false [.slice none 0 0]:=⟨by kernel_rfl,by kernel_rfl⟩
def Bx:TI aZ 31 3 56 true [.slice none 0 0,.slice none 0 0,.int .i64 0]:=⟨by kernel_rfl,by kernel_rfl⟩
def E7:TI aZ 33 1 24 false [.slice none 0 0]:=⟨by kernel_rfl,by kernel_rfl⟩
def DB:TI aZ 34 1 24 false [.slice none 0 0]:=⟨by kernel_rfl,by kernel_rfl⟩
def fL:TI aZ 35 1 24 false [.slice none 0 0]:=⟨by kernel_rfl,by kernel_rfl⟩
def Ge:TI aZ 36 1 24 false [.slice none 0 0]:=⟨by kernel_rfl,by kernel_rfl⟩
def jS:TI aZ 38 5 104 true [.slice none 0 0,.slice none 0 0,.slice none 0 0,.slice none 0 0,.int .i64 0]:=⟨by kernel_rfl,by kernel_rfl⟩
def AL:TI aZ 46 1 24 false [.slice none 0 0]:=⟨by kernel_rfl,by kernel_rfl⟩
def vU:TI aZ 48 2 32 true [.string ⟨#[]⟩,.string ⟨#[]⟩]:=⟨by kernel_rfl,by kernel_rfl⟩
def Gd:TI aZ 49 1 24 false [.slice none 0 0]:=⟨by kernel_rfl,by kernel_rfl⟩
def sw:TI aZ 50 1 24 false [.slice none 0 0]:=⟨by kernel_rfl,by kernel_rfl⟩
def jY:TI aZ 52 1 24 true [.slice none 0 0]:=⟨by kernel_rfl,by kernel_rfl⟩
def E6:TI aZ 53 1 24 false [.slice none 0 0]:=⟨by kernel_rfl,by kernel_rfl⟩
def qO:TI aZ 55 9 160 true [.bool false,.bool false,.slice none 0 0,.string ⟨#[]⟩,.string ⟨#[]⟩,.slice none 0 0,.slice none 0 0,.slice none 0 0,.slice none 0 0]:=⟨by kernel_rfl,by kernel_rfl⟩
def xN:TI aZ 57 3 32 true [.string ⟨#[]⟩,.int .i64 0,.bool false]:=⟨by kernel_rfl,by kernel_rfl⟩
def DA:TI aZ 59 1 24 false [.slice none 0 0]:=⟨by kernel_rfl,by kernel_rfl⟩
def sv:TI aZ 60 1 24 false [.slice none 0 0]:=⟨by kernel_rfl,by kernel_rfl⟩
def bD:TI aZ 62 1 24 true [.slice none 0 0]:=⟨by kernel_rfl,by kernel_rfl⟩
def wM:TI aZ 63 1 24 false [.slice none 0 0]:=⟨by kernel_rfl,by kernel_rfl⟩
def Bw:TI aZ 64 1 24 false [.slice none 0 0]:=⟨by kernel_rfl,by kernel_rfl⟩
def vn:TI aZ 66 9 176 true [.slice none 0 0,.slice none 0 0,.slice none 0 0,.slice none 0 0,.bool false,.bool false,.slice none 0 0,.slice none 0 0,.slice none 0 0]:=⟨by kernel_rfl,by kernel_rfl⟩
def yY:TI aZ 71 2 32 true [.bool false,.slice none 0 0]:=⟨by kernel_rfl,by kernel_rfl⟩
def p9:TI aZ 73 2 32 true [.int .i64 0,.slice none 0 0]:=⟨by kernel_rfl,by kernel_rfl⟩
def Ct:TI aZ 77 2 16 true [.int .i64 0,.bool false]:=⟨by kernel_rfl,by kernel_rfl⟩
def JE:TI aZ 80 2 16 true (List.replicate 2 (.int .i64 0)):=⟨by kernel_rfl,by kernel_rfl⟩
def xc:TI aZ 86 4 64 true [.bool false,.string ⟨#[]⟩,.string ⟨#[]⟩,.slice none 0 0]:=⟨by kernel_rfl,by kernel_rfl⟩
def o3:TI aZ 88 2 40 true [.slice none 0 0,.string ⟨#[]⟩]:=⟨by kernel_rfl,by kernel_rfl⟩
def xM:TI aZ 91 2 32 true [.string ⟨#[]⟩,.string ⟨#[]⟩]:=⟨by kernel_rfl,by kernel_rfl⟩
def KV:TI aZ 102 1 8 false [.int .u64 0]:=⟨by kernel_rfl,by kernel_rfl⟩
def lB:TI aZ 104 4 40 true [.int .i64 0,.int .i64 0,.int .u64 0,.string ⟨#[]⟩]:=⟨by kernel_rfl,by kernel_rfl⟩
def eJ:TI aZ 106 8 72 true [.int .i64 0,.int .i64 0,.int .i64 0,.int .i64 0,.int .i64 0,.int .i64 0,.int .u64 0,.string ⟨#[]⟩]:=⟨by kernel_rfl,by kernel_rfl⟩
def q9:TI aZ 108 1 24 false [.slice none 0 0]:=⟨by kernel_rfl,by kernel_rfl⟩
def kM:TI aZ 110 3 64 true [.string ⟨#[]⟩,.slice none 0 0,.slice none 0 0]:=⟨by kernel_rfl,by kernel_rfl⟩
def kl:TI aZ 113 2 24 true [.string ⟨#[]⟩,.int .i64 0]:=⟨by kernel_rfl,by kernel_rfl⟩
def KU:TI aZ 122 1 8 false [.pointer none]:=⟨by kernel_rfl,by kernel_rfl⟩
def WX:TI aZ 123 1 8 false [.map none]:=⟨by kernel_rfl,by kernel_rfl⟩
def KT:TI aZ 124 1 8 false [.map none]:=⟨by kernel_rfl,by kernel_rfl⟩
def WW:TI aZ 125 1 8 false [.map none]:=⟨by kernel_rfl,by kernel_rfl⟩
def ZU:TI aZ 127 25 440 true [.slice none 0 0,.bool false,.bool false,.slice none 0 0,.string ⟨#[]⟩,.string ⟨#[]⟩,.slice none 0 0,.slice none 0 0,.slice none 0 0,.slice none 0 0,.slice none 0 0,.slice none 0 0,.slice none 0 0,.slice none 0 0,.bool false,.bool false,.slice none 0 0,.slice none 0 0,.slice none 0 0,.map none,.map none,.map none,.slice none 0 0,.slice none 0 0,.int .i64 0]:=⟨by kernel_rfl,by kernel_rfl⟩
def WV:TI aZ 128 1 8 false [.nilFunc]:=⟨by kernel_rfl,by kernel_rfl⟩
def OY:TI aZ 135 1 24 false [.slice none 0 0]:=⟨by kernel_rfl,by kernel_rfl⟩
def ZT:TI aZ 137 11 224 true [.slice none 0 0,.slice none 0 0,.slice none 0 0,.slice none 0 0,.slice none 0 0,.slice none 0 0,.bool false,.bool false,.slice none 0 0,.slice none 0 0,.slice none 0 0]:=⟨by kernel_rfl,by kernel_rfl⟩
def Sn:TI aZ 153 1 8 false [.nilFunc]:=⟨by kernel_rfl,by kernel_rfl⟩
def Sm:TI aZ 154 1 8 false [.nilFunc]:=⟨by kernel_rfl,by kernel_rfl⟩
def lS:TI aZ 162 9 96 true [.int .i64 0,.int .i64 0,.int .i64 0,.int .i64 0,.int .i64 0,.int .u64 0,.string ⟨#[]⟩,.string ⟨#[]⟩,.string ⟨#[]⟩]:=⟨by kernel_rfl,by kernel_rfl⟩
def Iw:TI aZ 164 1 8 false [.map none]:=⟨by kernel_rfl,by kernel_rfl⟩
def ZS:TI aZ 176 1 8 false [.nilFunc]:=⟨by kernel_rfl,by kernel_rfl⟩
def ZR:TI aZ 179 6 48 true (List.replicate 6 (.nilFunc)):=⟨by kernel_rfl,by kernel_rfl⟩
def ZQ:TI aZ 200 1 8 false [.nilFunc]:=⟨by kernel_rfl,by kernel_rfl⟩
def ZP:TI aZ 209 2 48 true (List.replicate 2 (.slice none 0 0)):=⟨by kernel_rfl,by kernel_rfl⟩
def KS:TI aZ 211 1 8 false [.nilFunc]:=⟨by kernel_rfl,by kernel_rfl⟩
def Sl:TI aZ 226 2 24 true [.string ⟨#[]⟩,.int .i64 0]:=⟨by kernel_rfl,by kernel_rfl⟩
def ZO:TI aZ 227 6 72 true [.string ⟨#[]⟩,.int .i64 0,.string ⟨#[]⟩,.int .i64 0,.string ⟨#[]⟩,.int .i64 0]:=⟨by kernel_rfl,by kernel_rfl⟩
def OX:TI aZ 228 28 448 true (List.replicate 28 (.string ⟨#[]⟩)):=⟨by kernel_rfl,by kernel_rfl⟩
def OW:TI aZ 247 1 8 false [.nilFunc]:=⟨by kernel_rfl,by kernel_rfl⟩
def OV:TI aZ 248 1 8 false [.nilFunc]:=⟨by kernel_rfl,by kernel_rfl⟩
def AZ:TI aZ 300 2 16 true [.int .i64 0,.int .i64 0]:=⟨by kernel_rfl,by kernel_rfl⟩
def nk:bP aZ 24 0=some (0,1):=by kernel_rfl
def uA:bP aZ 31 0=some (0,1):=by kernel_rfl
def yi:bP aZ 31 1=some (1,1):=by kernel_rfl
def Eh:bP aZ 31 2=some (2,1):=by kernel_rfl
def uz:bP aZ 38 0=some (0,1):=by kernel_rfl
def sX:bP aZ 38 1=some (1,1):=by kernel_rfl
def wV:bP aZ 38 2=some (2,1):=by kernel_rfl
def vI:bP aZ 38 3=some (3,1):=by kernel_rfl
def J6:bP aZ 38 4=some (4,1):=by kernel_rfl
def Eg:bP aZ 48 0=some (0,1):=by kernel_rfl
def Ef:bP aZ 48 1=some (1,1):=by kernel_rfl
def j5:bP aZ 52 0=some (0,1):=by kernel_rfl
def Tj:bP aZ 55 0=some (0,1):=by kernel_rfl
def BQ:bP aZ 55 1=some (1,1):=by kernel_rfl
def qe:bP aZ 55 2=some (2,1):=by kernel_rfl
def J5:bP aZ 55 3=some (3,2):=by kernel_rfl
def wU:bP aZ 55 4=some (5,1):=by kernel_rfl
def zE:bP aZ 55 5=some (6,1):=by kernel_rfl
def wT:bP aZ 55 6=some (7,1):=by kernel_rfl
def wS:bP aZ 55 7=some (8,1):=by kernel_rfl
def yh:bP aZ 57 0=some (0,1):=by kernel_rfl
def vH:bP aZ 57 1=some (1,1):=by kernel_rfl
def Ti:bP aZ 57 2=some (2,1):=by kernel_rfl
def j4:bP aZ 62 0=some (0,1):=by kernel_rfl
def pu:bP aZ 66 0=some (0,1):=by kernel_rfl
def sW:bP aZ 66 1=some (1,1):=by kernel_rfl
def Ee:bP aZ 66 2=some (2,1):=by kernel_rfl
def Ed:bP aZ 66 3=some (3,1):=by kernel_rfl
def rX:bP aZ 66 4=some (4,1):=by kernel_rfl
def Ec:bP aZ 66 5=some (5,1):=by kernel_rfl
def rW:bP aZ 66 6=some (6,1):=by kernel_rfl
def mR:bP aZ 66 7=some (7,1):=by kernel_rfl
def qX:bP aZ 66 8=some (8,1):=by kernel_rfl
def J4:bP aZ 71 0=some (0,1):=by kernel_rfl
def J3:bP aZ 71 1=some (1,1):=by kernel_rfl
def qd:bP aZ 73 0=some (0,1):=by kernel_rfl
def vG:bP aZ 73 1=some (1,1):=by kernel_rfl
def Th:bP aZ 86 0=some (0,1):=by kernel_rfl
def J2:bP aZ 86 1=some (1,2):=by kernel_rfl
def Eb:bP aZ 86 2=some (3,1):=by kernel_rfl
def rU:bP aZ 88 0=some (0,1):=by kernel_rfl
def J1:bP aZ 88 1=some (1,1):=by kernel_rfl
def J0:bP aZ 91 0=some (0,1):=by kernel_rfl
def JZ:bP aZ 91 1=some (1,1):=by kernel_rfl
def tB:bP aZ 104 0=some (0,1):=by kernel_rfl
def u5:bP aZ 104 1=some (1,1):=by kernel_rfl
def FK:bP aZ 104 2=some (2,1):=by kernel_rfl
def pX:bP aZ 104 3=some (3,1):=by kernel_rfl
def mZ:bP aZ 106 0=some (0,1):=by kernel_rfl
def oW:bP aZ 106 1=some (1,1):=by kernel_rfl
def nX:bP aZ 106 2=some (2,1):=by kernel_rfl
def pW:bP aZ 106 3=some (3,1):=by kernel_rfl
def wB:bP aZ 106 4=some (4,4):=by kernel_rfl
def Aq:bP aZ 110 0=some (0,1):=by kernel_rfl
def kR:bP aZ 110 1=some (1,1):=by kernel_rfl
def u4:bP aZ 110 2=some (2,1):=by kernel_rfl
def tA:bP aZ 113 0=some (0,1):=by kernel_rfl
def FJ:bP aZ 113 1=some (1,1):=by kernel_rfl
def J9:bP aZ 127 0=some (0,1):=by kernel_rfl
def oV:bP aZ 127 1=some (1,9):=by kernel_rfl
def gJ:bP aZ 127 2=some (10,9):=by kernel_rfl
def PC:bP aZ 127 3=some (19,1):=by kernel_rfl
def J8:bP aZ 127 4=some (20,1):=by kernel_rfl
def PB:bP aZ 127 5=some (21,1):=by kernel_rfl
def wA:bP aZ 127 6=some (22,1):=by kernel_rfl
def Ap:bP aZ 127 7=some (23,1):=by kernel_rfl
def yk:bP aZ 127 8=some (24,1):=by kernel_rfl
def wz:bP aZ 137 0=some (0,1):=by kernel_rfl
def FI:bP aZ 137 1=some (1,1):=by kernel_rfl
def eW:bP aZ 137 2=some (2,9):=by kernel_rfl
def mh:bP aZ 162 0=some (0,1):=by kernel_rfl
def wy:bP aZ 162 1=some (1,1):=by kernel_rfl
def yj:bP aZ 162 2=some (2,1):=by kernel_rfl
def qG:bP aZ 162 3=some (3,4):=by kernel_rfl
def tz:bP aZ 162 4=some (7,1):=by kernel_rfl
def qF:bP aZ 162 5=some (8,1):=by kernel_rfl
def Vm:bP aZ 226 0=some (0,1):=by kernel_rfl
def Vl:bP aZ 226 1=some (1,1):=by kernel_rfl
def J7:bP aZ 300 0=some (0,1):=by kernel_rfl
def C6:bP aZ 300 1=some (1,1):=by kernel_rfl
def aac:gR aZ 24=some [(0,1)]:=by kernel_rfl
def ab6:gR aZ 31=some [(0,1),(1,1),(2,1)]:=by kernel_rfl
def Fj:gR aZ 38=some [(0,1),(1,1),(2,1),(3,1),(4,1)]:=by kernel_rfl
def ab5:gR aZ 48=some [(0,1),(1,1)]:=by kernel_rfl
def aaa:gR aZ 52=some [(0,1)]:=by kernel_rfl
def ab4:gR aZ 55=some [(0,1),(1,1),(2,1),(3,2),(5,1),(6,1),(7,1),(8,1)]:=by kernel_rfl
def ab3:gR aZ 57=some [(0,1),(1,1),(2,1)]:=by kernel_rfl
def BN:gR aZ 62=some [(0,1)]:=by kernel_rfl
def Z9:gR aZ 71=some [(0,1),(1,1)]:=by kernel_rfl
def Z8:gR aZ 73=some [(0,1),(1,1)]:=by kernel_rfl
def Z7:gR aZ 77=some [(0,1),(1,1)]:=by kernel_rfl
def ab2:gR aZ 88=some [(0,1),(1,1)]:=by kernel_rfl
def Z6:gR aZ 91=some [(0,1),(1,1)]:=by kernel_rfl
def C3:gR aZ 104=some [(0,1),(1,1),(2,1),(3,1)]:=by kernel_rfl
def yK:gR aZ 106=some [(0,1),(1,1),(2,1),(3,1),(4,4)]:=by kernel_rfl
def Xf:gR aZ 110=some [(0,1),(1,1),(2,1)]:=by kernel_rfl
def Tb:gR aZ 113=some [(0,1),(1,1)]:=by kernel_rfl
def aaf:gR aZ 127=some [(0,1),(1,9),(10,9),(19,1),(20,1),(21,1),(22,1),(23,1),(24,1)]:=by kernel_rfl
def aae:gR aZ 137=some [(0,1),(1,1),(2,9)]:=by kernel_rfl
def aad:gR aZ 162=some [(0,1),(1,1),(2,1),(3,4),(7,1),(8,1)]:=by kernel_rfl
def aab:gR aZ 300=some [(0,1),(1,1)]:=by kernel_rfl
def cb9:ak aZ 9=true:=by kernel_rfl
def ada:ak aZ 10=true:=by kernel_rfl
def abK:ak aZ 11=true:=by kernel_rfl
def abD:ak aZ 12=true:=by kernel_rfl
def abv:ak aZ 13=true:=by kernel_rfl
def ac9:ak aZ 14=true:=by kernel_rfl
def WC:ak aZ 19=true:=by kernel_rfl
def aa2:ak aZ 20=true:=by kernel_rfl
def ac8:ak aZ 22=true:=by kernel_rfl
def ac7:ak aZ 23=true:=by kernel_rfl
def RK:ak aZ 24=true:=by kernel_rfl
def ac6:ak aZ 26=true:=by kernel_rfl
def ac5:ak aZ 27=true:=by kernel_rfl
def ac4:ak aZ 28=true:=by kernel_rfl
def aaH:ak aZ 29=true:=by kernel_rfl
def ac3:ak aZ 30=true:=by kernel_rfl
def ac2:ak aZ 31=true:=by kernel_rfl
def ac1:ak aZ 32=true:=by kernel_rfl
def ac0:ak aZ 33=true:=by kernel_rfl
def acZ:ak aZ 34=true:=by kernel_rfl
def acY:ak aZ 35=true:=by kernel_rfl
def acX:ak aZ 36=true:=by kernel_rfl
def WB:ak aZ 37=true:=by kernel_rfl
def acW:ak aZ 38=true:=by kernel_rfl
def acV:ak aZ 39=true:=by kernel_rfl
def acU:ak aZ 40=true:=by kernel_rfl
def acT:ak aZ 41=true:=by kernel_rfl
def acS:ak aZ 42=true:=by kernel_rfl
def acR:ak aZ 43=true:=by kernel_rfl
def acQ:ak aZ 44=true:=by kernel_rfl
def acP:ak aZ 45=true:=by kernel_rfl
def acO:ak aZ 46=true:=by kernel_rfl
def acN:ak aZ 47=true:=by kernel_rfl
def acM:ak aZ 48=true:=by kernel_rfl
def acL:ak aZ 49=true:=by kernel_rfl
def acK:ak aZ 50=true:=by kernel_rfl
def acJ:ak aZ 51=true:=by kernel_rfl
def Zm:ak aZ 52=true:=by kernel_rfl
def acI:ak aZ 53=true:=by kernel_rfl
def WA:ak aZ 59=true:=by kernel_rfl
def acH:ak aZ 60=true:=by kernel_rfl
def acG:ak aZ 61=true:=by kernel_rfl
def acF:ak aZ 62=true:=by kernel_rfl
def acE:ak aZ 63=true:=by kernel_rfl
def acD:ak aZ 64=true:=by kernel_rfl
def RJ:ak aZ 65=true:=by kernel_rfl
def acC:ak aZ 66=true:=by kernel_rfl
def acB:ak aZ 67=true:=by kernel_rfl
def Zl:ak aZ 68=true:=by kernel_rfl
def acA:ak aZ 69=true:=by kernel_rfl
def acz:ak aZ 70=true:=by kernel_rfl
def acy:ak aZ 71=true:=by kernel_rfl
def acx:ak aZ 72=true:=by kernel_rfl
def acw:ak aZ 73=true:=by kernel_rfl
def acv:ak aZ 74=true:=by kernel_rfl
def acu:ak aZ 75=true:=by kernel_rfl
def aaG:ak aZ 76=true:=by kernel_rfl
def act:ak aZ 77=true:=by kernel_rfl
def acs:ak aZ 78=true:=by kernel_rfl
def acr:ak aZ 79=true:=by kernel_rfl
def acq:ak aZ 80=true:=by kernel_rfl
def acp:ak aZ 81=true:=by kernel_rfl
def aco:ak aZ 82=true:=by kernel_rfl
def acn:ak aZ 83=true:=by kernel_rfl
def acm:ak aZ 84=true:=by kernel_rfl
def acl:ak aZ 85=true:=by kernel_rfl
def ack:ak aZ 86=true:=by kernel_rfl
def aaF:ak aZ 87=true:=by kernel_rfl
def aaE:ak aZ 88=true:=by kernel_rfl
def Mh:ak aZ 89=true:=by kernel_rfl
def acj:ak aZ 90=true:=by kernel_rfl
def aci:ak aZ 91=true:=by kernel_rfl
def ach:ak aZ 92=true:=by kernel_rfl
def acg:ak aZ 93=true:=by kernel_rfl
def acf:ak aZ 94=true:=by kernel_rfl
def ace:ak aZ 95=true:=by kernel_rfl
def acd:ak aZ 96=true:=by kernel_rfl
def acc:ak aZ 97=true:=by kernel_rfl
def acb:ak aZ 98=true:=by kernel_rfl
def aaD:ak aZ 99=true:=by kernel_rfl
def XB:ak aZ 100=true:=by kernel_rfl
def abL:ak aZ 101=true:=by kernel_rfl
def Mi:ak aZ 102=true:=by kernel_rfl
def XA:ak aZ 103=true:=by kernel_rfl
def Ub:ak aZ 104=true:=by kernel_rfl
def Xz:ak aZ 105=true:=by kernel_rfl
def Jh:ak aZ 106=true:=by kernel_rfl
def Ua:ak aZ 107=true:=by kernel_rfl
def T9:ak aZ 108=true:=by kernel_rfl
def Qc:ak aZ 109=true:=by kernel_rfl
def Jg:ak aZ 110=true:=by kernel_rfl
def abJ:ak aZ 111=true:=by kernel_rfl
def abI:ak aZ 114=true:=by kernel_rfl
def abH:ak aZ 115=true:=by kernel_rfl
def abG:ak aZ 116=true:=by kernel_rfl
def abF:ak aZ 117=true:=by kernel_rfl
def abE:ak aZ 118=true:=by kernel_rfl
def Xy:ak aZ 119=true:=by kernel_rfl
def abC:ak aZ 120=true:=by kernel_rfl
def Xx:ak aZ 121=true:=by kernel_rfl
def abB:ak aZ 122=true:=by kernel_rfl
def abA:ak aZ 123=true:=by kernel_rfl
def abz:ak aZ 124=true:=by kernel_rfl
def Xw:ak aZ 125=true:=by kernel_rfl
def aby:ak aZ 126=true:=by kernel_rfl
def abx:ak aZ 127=true:=by kernel_rfl
def abw:ak aZ 128=true:=by kernel_rfl
def Xv:ak aZ 129=true:=by kernel_rfl
def Xu:ak aZ 130=true:=by kernel_rfl
def Xt:ak aZ 131=true:=by kernel_rfl
def abu:ak aZ 132=true:=by kernel_rfl
def abt:ak aZ 133=true:=by kernel_rfl
def abs:ak aZ 134=true:=by kernel_rfl
def abr:ak aZ 135=true:=by kernel_rfl
def Xs:ak aZ 136=true:=by kernel_rfl
def T8:ak aZ 137=true:=by kernel_rfl
def Qb:ak aZ 138=true:=by kernel_rfl
def Xr:ak aZ 139=true:=by kernel_rfl
def T7:ak aZ 140=true:=by kernel_rfl
def Xq:ak aZ 141=true:=by kernel_rfl
def Xp:ak aZ 142=true:=by kernel_rfl
def T6:ak aZ 143=true:=by kernel_rfl
def T5:ak aZ 144=true:=by kernel_rfl
def Xo:ak aZ 145=true:=by kernel_rfl
def Qa:ak aZ 146=true:=by kernel_rfl
def Xn:ak aZ 147=true:=by kernel_rfl
def abq:ak aZ 148=true:=by kernel_rfl
def T4:ak aZ 149=true:=by kernel_rfl
def abp:ak aZ 150=true:=by kernel_rfl
def PZ:ak aZ 151=true:=by kernel_rfl
def Xm:ak aZ 152=true:=by kernel_rfl
def abo:ak aZ 153=true:=by kernel_rfl
def abn:ak aZ 154=true:=by kernel_rfl
def abm:ak aZ 155=true:=by kernel_rfl
def T0:ak aZ 158=true:=by kernel_rfl
def abl:ak aZ 159=true:=by kernel_rfl
def abk:ak aZ 160=true:=by kernel_rfl
def abj:ak aZ 161=true:=by kernel_rfl
def abi:ak aZ 162=true:=by kernel_rfl
def abh:ak aZ 163=true:=by kernel_rfl
def abg:ak aZ 170=true:=by kernel_rfl
def abf:ak aZ 171=true:=by kernel_rfl
def abe:ak aZ 172=true:=by kernel_rfl
def abd:ak aZ 173=true:=by kernel_rfl
def abc:ak aZ 174=true:=by kernel_rfl
def TZ:ak aZ 175=true:=by kernel_rfl
def abb:ak aZ 176=true:=by kernel_rfl
def aba:ak aZ 177=true:=by kernel_rfl
def Xl:ak aZ 178=true:=by kernel_rfl
def aa9:ak aZ 179=true:=by kernel_rfl
def aa8:ak aZ 180=true:=by kernel_rfl
def aa7:ak aZ 181=true:=by kernel_rfl
def aa6:ak aZ 182=true:=by kernel_rfl
def TY:ak aZ 183=true:=by kernel_rfl
def aa5:ak aZ 184=true:=by kernel_rfl
def aa4:ak aZ 185=true:=by kernel_rfl
def aa3:ak aZ 186=true:=by kernel_rfl
def TX:ak aZ 187=true:=by kernel_rfl
def PY:ak aZ 188=true:=by kernel_rfl
def Xk:ak aZ 189=true:=by kernel_rfl
def aa1:ak aZ 201=true:=by kernel_rfl
def aa0:ak aZ 202=true:=by kernel_rfl
def aaZ:ak aZ 203=true:=by kernel_rfl
def aaY:ak aZ 204=true:=by kernel_rfl
def aaX:ak aZ 212=true:=by kernel_rfl
def aaW:ak aZ 213=true:=by kernel_rfl
def aaV:ak aZ 214=true:=by kernel_rfl
def aaU:ak aZ 215=true:=by kernel_rfl
def aaT:ak aZ 216=true:=by kernel_rfl
def Xj:ak aZ 217=true:=by kernel_rfl
def aaS:ak aZ 218=true:=by kernel_rfl
def aaR:ak aZ 219=true:=by kernel_rfl
def aaQ:ak aZ 220=true:=by kernel_rfl
def aaP:ak aZ 221=true:=by kernel_rfl
def aaO:ak aZ 233=true:=by kernel_rfl
def aaN:ak aZ 234=true:=by kernel_rfl
def aaM:ak aZ 235=true:=by kernel_rfl
def aaL:ak aZ 236=true:=by kernel_rfl
def Xi:ak aZ 237=true:=by kernel_rfl
def aaK:ak aZ 238=true:=by kernel_rfl
def aaJ:ak aZ 243=true:=by kernel_rfl
def aaI:ak aZ 244=true:=by kernel_rfl
def zv3:ZV aZ 3 (.int .i64 0):=(show(Tryz.prog.info? 3).bind (fun i=>i.zero)=some (.int .i64 0) by kernel_rfl)
def zv4:ZV aZ 4 (.bool false):=(show(Tryz.prog.info? 4).bind (fun i=>i.zero)=some (.bool false) by kernel_rfl)
def Zw:ZV aZ 35 (.slice none 0 0):=(show(Tryz.prog.info? 35).bind (fun i=>i.zero)=some (.slice none 0 0) by kernel_rfl)
def aaz:lq aZ 77 gY 2:=yl (n:=1) (fs:=[(3,0,false),(4,1,false)]) (by kernel_rfl) (by kernel_rfl) rfl (HP.cons cF rfl rfl Te (j9 (u7 (n:=0) yW) 0) (HP.cons yG rfl rfl Td (j9 (TG (n:=0) FS) 0) HP.nil)) (fun x y=>by cases x;cases y;simp [Bool.decide_and])
def aaA:MD aZ 77 gY:=MD.of (by kernel_rfl) (j9 aaz 18)
def ab9:MD aZ 80 (qr (rI .i64) 2):=MD.of (by kernel_rfl) (j9 (Wt (n:=1) FR cF rfl rfl (u7 (n:=0) yW)) 18)
def aay:lq aZ 91 fI 2:=yl (n:=1) (fs:=[(9,0,false),(9,1,false)]) (by kernel_rfl) (by kernel_rfl) rfl (HP.cons jG rfl rfl xu (j9 (Kl (n:=0) gx) 0) (HP.cons jG rfl rfl xr (j9 (Kl (n:=0) gx) 0) HP.nil)) (fun x y=>by cases x;cases y;simp [Bool.decide_and])
def ab8:MD aZ 91 fI:=MD.of (by kernel_rfl) (j9 aay 18)
def TH:lq aZ 104 ei 2:=yl (n:=1) (fs:=[(3,0,false),(2,1,false),(102,2,false),(9,3,false)]) (by kernel_rfl) (by kernel_rfl) rfl (HP.cons cF rfl rfl pm (j9 (u7 (n:=0) yW) 0) (HP.cons Uy rfl rfl pl (j9 (u7 (n:=0) Tryz.underlying2) 0) (HP.cons KV rfl rfl yd (j9 (u7 (n:=0) Tryz.underlying102) 0) (HP.cons jG rfl rfl lc (j9 (Kl (n:=0) gx) 0) HP.nil)))) (fun x y=>by cases x;cases y;simp [Bool.decide_and])
def C9:MD aZ 104 ei:=MD.of (by kernel_rfl) (j9 TH 18)
def Zh:lq aZ 106 br 3:=yl (n:=2) (fs:=[(3,0,false),(3,1,false),(3,2,false),(3,3,false),(104,4,false)]) (by kernel_rfl) (by kernel_rfl) rfl (HP.cons cF rfl rfl gQ (j9 (u7 (n:=0) yW) 1) (HP.cons cF rfl rfl mQ (j9 (u7 (n:=0) yW) 1) (HP.cons cF rfl rfl mb (j9 (u7 (n:=0) yW) 1) (HP.cons cF rfl rfl jz (j9 (u7 (n:=0) yW) 1) (HP.cons lB rfl rfl nV (j9 TH 0) HP.nil))))) (fun x y=>by cases x;cases y;simp [Bool.decide_and])
def Xh:MD aZ 106 br:=MD.of (by kernel_rfl) (j9 Zh 17)
def Z2:RW aZ 91 lg:=abV (r:=fI) (mk:=fun p=>(⟨p.1,p.2⟩:km)) Tryz.underlying91 rfl gx jG rfl rfl (fun p=>⟨[_],[_],rfl,rfl,rfl⟩) (fun p q h=>by obtain⟨p1,p2⟩:=p;obtain⟨q1,q2⟩:=q;simpa using h) ab8
def Z4{S:SH}{cs:List Value}{y:km}(h:fI.rc S cs y):cs=[ez y.Table,ez y.Name]:=by
 obtain⟨a,b,e,V,Z⟩:=h
 rw [e,show a=_ from V,show b=_ from Z]
 rfl
def upX:Go.Proofs.Builder.Extra aZ oY:={sizeBuilder:=by kernel_rfl,liesBuilder:=by kernel_rfl,t5:=OM,a5:=Tryz.isAgg5,z5:=Tryz.sizeOf5,v5:=Tryz.zeroValue5,infoByte:=by kernel_rfl,cellsByte:=by kernel_rfl,sizeByte:=by kernel_rfl,neB5:=by decide}

end Go.Proofs.YthbdkceckjihgaaGreatDoor

