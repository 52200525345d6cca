/- cH of this claim: T. -/
import Derived.Test.YthbdkceckjihgaaGreatDoorBaD
import Derived.Test.YthbdkceckjihgaaGreatDoorProg
import Derived.Test.YthbdkceckjihgaaGreatDoorBaS
import Derived.Test.YthbdkceckjihgaaGreatDoorBaV4
import Derived.Shelf.Strings.CaseAny
import Derived.KernelRfl
set_option linter.all false
namespace Go.Proofs.YthbdkceckjihgaaGreatDoor
open Go
noncomputable abbrev aH:=Tryz.prog
def eu:= @Tryz.underlying35
def kx:= @Tryz.underlying9
def kQ:= @Tryz.underlying108
def mj:= @Tryz.underlying22
def nv:= @Tryz.underlying50
def om:= @Tryz.underlying64
def oW:= @Tryz.underlying46
def o7:= @Tryz.underlying60
def qz:= @Tryz.underlying3
def qy:= @Tryz.underlying28
def tE:= @Tryz.underlying34
def uU:= @Tryz.underlying49
def ww:= @Tryz.underlying53
def xb:= @Tryz.underlying29
def xa:= @Tryz.underlying80
def Bn:= @Tryz.underlying280
def CN:= @Tryz.underlying164
def CJ:= @Tryz.underlying63
def GR:= @Tryz.underlying4
def Bv:= @Tryz.underlying242
def GQ:= @Tryz.underlying5

def mixed:Tryz.prog.follows .mixedOrders=true:=by kernel_rfl
def Mr:TI aH 2 1 8 false [.int .i64 0]:=⟨by kernel_rfl,by kernel_rfl⟩
def cF:TI aH 3 1 8 false [.int .i64 0]:=⟨by kernel_rfl,by kernel_rfl⟩
def Ev:TI aH 4 1 1 false [.bool false]:=⟨by kernel_rfl,by kernel_rfl⟩
def O0:TI aH 5 1 1 false [.int .u8 0]:=⟨by kernel_rfl,by kernel_rfl⟩
def j5:TI aH 9 1 16 false [.string ⟨#[]⟩]:=⟨by kernel_rfl,by kernel_rfl⟩
def pd:TI aH 22 1 24 false [.slice none 0 0]:=⟨by kernel_rfl,by kernel_rfl⟩
def lB:TI aH 24 1 24 true [.slice none 0 0]:=⟨by kernel_rfl,by kernel_rfl⟩
def At:TI aH 28 1 24 false [.slice none 0 0]:=⟨by kernel_rfl,by kernel_rfl⟩
def C1:TI aH 29 1 24 false [.slice none 0 0]:=⟨by kernel_rfl,by kernel_rfl⟩
def pB:TI aH 31 3 56 true [.slice none 0 0,.slice none 0 0,.int .i64 0]:=⟨by kernel_rfl,by kernel_rfl⟩
def Ln:TI aH 33 1 24 false [.slice none 0 0]:=⟨by kernel_rfl,by kernel_rfl⟩
def IS:TI aH 34 1 24 false [.slice none 0 0]:=⟨by kernel_rfl,by kernel_rfl⟩
def gc:TI aH 35 1 24 false [.slice none 0 0]:=⟨by kernel_rfl,by kernel_rfl⟩
def MS:TI aH 36 1 24 false [.slice none 0 0]:=⟨by kernel_rfl,by kernel_rfl⟩
def mo:TI aH 38 5 104 true [.slice none 0 0,.slice none 0 0,.slice none 0 0,.slice none 0 0,.int .i64 0]:=⟨by kernel_rfl,by kernel_rfl⟩
def xo:TI aH 46 1 24 false [.slice none 0 0]:=⟨by kernel_rfl,by kernel_rfl⟩
def FH:TI aH 48 2 32 true [.string ⟨#[]⟩,.string ⟨#[]⟩]:=⟨by kernel_rfl,by kernel_rfl⟩
def BC:TI aH 49 1 24 false [.slice none 0 0]:=⟨by kernel_rfl,by kernel_rfl⟩
def sP:TI aH 50 1 24 false [.slice none 0 0]:=⟨by kernel_rfl,by kernel_rfl⟩
def iR:TI aH 52 1 24 true [.slice none 0 0]:=⟨by kernel_rfl,by kernel_rfl⟩
def Ar:TI aH 53 1 24 false [.slice none 0 0]:=⟨by kernel_rfl,by kernel_rfl⟩
def mR:TI aH 55 9 160 true [.bool false,.bool false,.slice none 0 0,.string ⟨#[]⟩,.string ⟨#[]⟩,.slice none 0 0,.slice none 0 0,.slice none 0 0,.slice none 0 0]:=⟨by kernel_rfl,by kernel_rfl⟩
def wD:TI aH 57 3 32 true [.string ⟨#[]⟩,.int .i64 0,.bool false]:=⟨by kernel_rfl,by kernel_rfl⟩
def MR:TI aH 59 1 24 false [.slice none 0 0]:=⟨by kernel_rfl,by kernel_rfl⟩
def C0:TI aH 60 1 24 false [.slice none 0 0]:=⟨by kernel_rfl,by kernel_rfl⟩
def ce:TI aH 62 1 24 true [.slice none 0 0]:=⟨by kernel_rfl,by kernel_rfl⟩
def FG:TI aH 63 1 24 false [.slice none 0 0]:=⟨by kernel_rfl,by kernel_rfl⟩
def FF:TI aH 64 1 24 false [.slice none 0 0]:=⟨by kernel_rfl,by kernel_rfl⟩
def G1:TI aH 66 9 176 true [.slice none 0 0,.slice none 0 0,.slice none 0 0,.slice none 0 0,.bool false,.bool false,.slice none 0 0,.slice none 0 0,.slice none 0 0]:=⟨by kernel_rfl,by kernel_rfl⟩
def Lm:TI aH 71 2 32 true [.bool false,.slice none 0 0]:=⟨by kernel_rfl,by kernel_rfl⟩
def Aq:TI aH 73 2 32 true [.int .i64 0,.slice none 0 0]:=⟨by kernel_rfl,by kernel_rfl⟩
def Ll:TI aH 77 2 16 true [.int .i64 0,.bool false]:=⟨by kernel_rfl,by kernel_rfl⟩
def Ap:TI aH 80 2 16 true (List.replicate 2 (.int .i64 0)):=⟨by kernel_rfl,by kernel_rfl⟩
def tM:TI aH 86 4 64 true [.bool false,.string ⟨#[]⟩,.string ⟨#[]⟩,.slice none 0 0]:=⟨by kernel_rfl,by kernel_rfl⟩
def lJ:TI aH 88 2 40 true [.slice none 0 0,.string ⟨#[]⟩]:=⟨by kernel_rfl,by kernel_rfl⟩
def u0:TI aH 91 2 32 true [.string ⟨#[]⟩,.string ⟨#[]⟩]:=⟨by kernel_rfl,by kernel_rfl⟩
def Kz:TI aH 102 1 8 false [.int .u64 0]:=⟨by kernel_rfl,by kernel_rfl⟩
def mq:TI aH 104 4 40 true [.int .i64 0,.int .i64 0,.int .u64 0,.string ⟨#[]⟩]:=⟨by kernel_rfl,by kernel_rfl⟩
def fP:TI aH 106 8 72 true [.int .i64 0,.int .i64 0,.int .i64 0,.int .i64 0,.int .i64 0,.int .i64 0,.int .u64 0,.string ⟨#[]⟩]:=⟨by kernel_rfl,by kernel_rfl⟩
def mp:TI aH 108 1 24 false [.slice none 0 0]:=⟨by kernel_rfl,by kernel_rfl⟩
def ie:TI aH 110 3 64 true [.string ⟨#[]⟩,.slice none 0 0,.slice none 0 0]:=⟨by kernel_rfl,by kernel_rfl⟩
def fG:TI aH 113 2 24 true [.string ⟨#[]⟩,.int .i64 0]:=⟨by kernel_rfl,by kernel_rfl⟩
def BF:TI aH 122 1 8 false [.pointer none]:=⟨by kernel_rfl,by kernel_rfl⟩
def Ky:TI aH 123 1 8 false [.map none]:=⟨by kernel_rfl,by kernel_rfl⟩
def BE:TI aH 124 1 8 false [.map none]:=⟨by kernel_rfl,by kernel_rfl⟩
def Kx:TI aH 125 1 8 false [.map none]:=⟨by kernel_rfl,by kernel_rfl⟩
def M0:TI aH 127 25 440 true [.slice none 0 0,.bool false,.bool false,.slice none 0 0,.string ⟨#[]⟩,.string ⟨#[]⟩,.slice none 0 0,.slice none 0 0,.slice none 0 0,.slice none 0 0,.slice none 0 0,.slice none 0 0,.slice none 0 0,.slice none 0 0,.bool false,.bool false,.slice none 0 0,.slice none 0 0,.slice none 0 0,.map none,.map none,.map none,.slice none 0 0,.slice none 0 0,.int .i64 0]:=⟨by kernel_rfl,by kernel_rfl⟩
def Kw:TI aH 128 1 8 false [.nilFunc]:=⟨by kernel_rfl,by kernel_rfl⟩
def ko:TI aH 162 9 96 true [.int .i64 0,.int .i64 0,.int .i64 0,.int .i64 0,.int .i64 0,.int .u64 0,.string ⟨#[]⟩,.string ⟨#[]⟩,.string ⟨#[]⟩]:=⟨by kernel_rfl,by kernel_rfl⟩
def y7:TI aH 164 1 8 false [.map none]:=⟨by kernel_rfl,by kernel_rfl⟩
def MZ:TI aH 176 1 8 false [.nilFunc]:=⟨by kernel_rfl,by kernel_rfl⟩
def MY:TI aH 179 6 48 true (List.replicate 6 (.nilFunc)):=⟨by kernel_rfl,by kernel_rfl⟩
def MX:TI aH 200 1 8 false [.nilFunc]:=⟨by kernel_rfl,by kernel_rfl⟩
def MW:TI aH 209 2 48 true (List.replicate 2 (.slice none 0 0)):=⟨by kernel_rfl,by kernel_rfl⟩
def BD:TI aH 211 1 8 false [.nilFunc]:=⟨by kernel_rfl,by kernel_rfl⟩
def G2:TI aH 226 2 24 true [.string ⟨#[]⟩,.int .i64 0]:=⟨by kernel_rfl,by kernel_rfl⟩
def MU:TI aH 227 6 72 true [.string ⟨#[]⟩,.int .i64 0,.string ⟨#[]⟩,.int .i64 0,.string ⟨#[]⟩,.int .i64 0]:=⟨by kernel_rfl,by kernel_rfl⟩
def Ex:TI aH 247 1 8 false [.nilFunc]:=⟨by kernel_rfl,by kernel_rfl⟩
def Ew:TI aH 248 1 8 false [.nilFunc]:=⟨by kernel_rfl,by kernel_rfl⟩
def ss:TI aH 300 2 16 true [.int .i64 0,.int .i64 0]:=⟨by kernel_rfl,by kernel_rfl⟩
def iU:aX aH 24 0=some (0,1):=by kernel_rfl
def pP:aX aH 31 0=some (0,1):=by kernel_rfl
def vC:aX aH 31 1=some (1,1):=by kernel_rfl
def DI:aX aH 31 2=some (2,1):=by kernel_rfl
def DH:aX aH 38 0=some (0,1):=by kernel_rfl
def A1:aX aH 38 1=some (1,1):=by kernel_rfl
def DG:aX aH 38 2=some (2,1):=by kernel_rfl
def HM:aX aH 38 3=some (3,1):=by kernel_rfl
def DF:aX aH 48 0=some (0,1):=by kernel_rfl
def DE:aX aH 48 1=some (1,1):=by kernel_rfl
def kE:aX aH 52 0=some (0,1):=by kernel_rfl
def LK:aX aH 55 0=some (0,1):=by kernel_rfl
def AZ:aX aH 55 1=some (1,1):=by kernel_rfl
def nS:aX aH 55 2=some (2,1):=by kernel_rfl
def HK:aX aH 55 3=some (3,2):=by kernel_rfl
def s8:aX aH 55 4=some (5,1):=by kernel_rfl
def ye:aX aH 55 5=some (6,1):=by kernel_rfl
def s7:aX aH 55 6=some (7,1):=by kernel_rfl
def s6:aX aH 55 7=some (8,1):=by kernel_rfl
def yd:aX aH 57 0=some (0,1):=by kernel_rfl
def yc:aX aH 57 1=some (1,1):=by kernel_rfl
def LJ:aX aH 57 2=some (2,1):=by kernel_rfl
def s5:aX aH 62 0=some (0,1):=by kernel_rfl
def AY:aX aH 66 0=some (0,1):=by kernel_rfl
def HJ:aX aH 66 1=some (1,1):=by kernel_rfl
def LI:aX aH 66 2=some (2,1):=by kernel_rfl
def LH:aX aH 66 3=some (3,1):=by kernel_rfl
def vB:aX aH 66 4=some (4,1):=by kernel_rfl
def LF:aX aH 66 5=some (5,1):=by kernel_rfl
def yb:aX aH 66 6=some (6,1):=by kernel_rfl
def vA:aX aH 66 7=some (7,1):=by kernel_rfl
def vz:aX aH 66 8=some (8,1):=by kernel_rfl
def vy:aX aH 73 0=some (0,1):=by kernel_rfl
def AX:aX aH 73 1=some (1,1):=by kernel_rfl
def LE:aX aH 86 0=some (0,1):=by kernel_rfl
def HI:aX aH 86 1=some (1,2):=by kernel_rfl
def AW:aX aH 86 2=some (3,1):=by kernel_rfl
def pO:aX aH 88 0=some (0,1):=by kernel_rfl
def HH:aX aH 88 1=some (1,1):=by kernel_rfl
def HG:aX aH 91 0=some (0,1):=by kernel_rfl
def HF:aX aH 91 1=some (1,1):=by kernel_rfl
def rL:aX aH 104 0=some (0,1):=by kernel_rfl
def uD:aX aH 104 1=some (1,1):=by kernel_rfl
def Jc:aX aH 104 2=some (2,1):=by kernel_rfl
def rK:aX aH 104 3=some (3,1):=by kernel_rfl
def mh:aX aH 106 0=some (0,1):=by kernel_rfl
def uC:aX aH 106 1=some (1,1):=by kernel_rfl
def uB:aX aH 106 2=some (2,1):=by kernel_rfl
def pS:aX aH 106 3=some (3,1):=by kernel_rfl
def w3:aX aH 106 4=some (4,4):=by kernel_rfl
def uA:aX aH 110 0=some (0,1):=by kernel_rfl
def g9:aX aH 110 1=some (1,1):=by kernel_rfl
def nj:aX aH 110 2=some (2,1):=by kernel_rfl
def oM:aX aH 113 0=some (0,1):=by kernel_rfl
def uz:aX aH 113 1=some (1,1):=by kernel_rfl
def A4:aX aH 127 0=some (0,1):=by kernel_rfl
def jl:aX aH 127 1=some (1,9):=by kernel_rfl
def d8:aX aH 127 2=some (10,9):=by kernel_rfl
def EZ:aX aH 127 3=some (19,1):=by kernel_rfl
def A3:aX aH 127 4=some (20,1):=by kernel_rfl
def EY:aX aH 127 5=some (21,1):=by kernel_rfl
def oL:aX aH 127 6=some (22,1):=by kernel_rfl
def rJ:aX aH 127 7=some (23,1):=by kernel_rfl
def pR:aX aH 127 8=some (24,1):=by kernel_rfl
def ni:aX aH 162 0=some (0,1):=by kernel_rfl
def EX:aX aH 162 1=some (1,1):=by kernel_rfl
def EW:aX aH 162 2=some (2,1):=by kernel_rfl
def oK:aX aH 162 3=some (3,4):=by kernel_rfl
def rG:aX aH 162 4=some (7,1):=by kernel_rfl
def pQ:aX aH 162 5=some (8,1):=by kernel_rfl
def Jb:aX aH 226 0=some (0,1):=by kernel_rfl
def Ja:aX aH 226 1=some (1,1):=by kernel_rfl
def A2:aX aH 300 0=some (0,1):=by kernel_rfl
def uy:aX aH 300 1=some (1,1):=by kernel_rfl
def Ni:ee aH 24=some [(0,1)]:=by kernel_rfl
def Pm:ee aH 31=some [(0,1),(1,1),(2,1)]:=by kernel_rfl
def Gb:ee aH 38=some [(0,1),(1,1),(2,1),(3,1),(4,1)]:=by kernel_rfl
def Pl:ee aH 48=some [(0,1),(1,1)]:=by kernel_rfl
def Ng:ee aH 52=some [(0,1)]:=by kernel_rfl
def Pk:ee aH 55=some [(0,1),(1,1),(2,1),(3,2),(5,1),(6,1),(7,1),(8,1)]:=by kernel_rfl
def Pj:ee aH 57=some [(0,1),(1,1),(2,1)]:=by kernel_rfl
def Dy:ee aH 62=some [(0,1)]:=by kernel_rfl
def Pi:ee aH 66=some [(0,1),(1,1),(2,1),(3,1),(4,1),(5,1),(6,1),(7,1),(8,1)]:=by kernel_rfl
def Ph:ee aH 71=some [(0,1),(1,1)]:=by kernel_rfl
def Pg:ee aH 73=some [(0,1),(1,1)]:=by kernel_rfl
def Pf:ee aH 77=some [(0,1),(1,1)]:=by kernel_rfl
def Pe:ee aH 88=some [(0,1),(1,1)]:=by kernel_rfl
def Nf:ee aH 91=some [(0,1),(1,1)]:=by kernel_rfl
def ET:ee aH 104=some [(0,1),(1,1),(2,1),(3,1)]:=by kernel_rfl
def zC:ee aH 106=some [(0,1),(1,1),(2,1),(3,1),(4,4)]:=by kernel_rfl
def KF:ee aH 110=some [(0,1),(1,1),(2,1)]:=by kernel_rfl
def HB:ee aH 113=some [(0,1),(1,1)]:=by kernel_rfl
def Nk:ee aH 127=some [(0,1),(1,9),(10,9),(19,1),(20,1),(21,1),(22,1),(23,1),(24,1)]:=by kernel_rfl
def Nj:ee aH 162=some [(0,1),(1,1),(2,1),(3,4),(7,1),(8,1)]:=by kernel_rfl
def Nh:ee aH 300=some [(0,1),(1,1)]:=by kernel_rfl
def cb9:af aH 9=true:=by kernel_rfl
def Kh:af aH 10=true:=by kernel_rfl
def Kg:af aH 11=true:=by kernel_rfl
def OD:af aH 12=true:=by kernel_rfl
def Oe:af aH 17=true:=by kernel_rfl
def Kf:af aH 19=true:=by kernel_rfl
def Ke:af aH 22=true:=by kernel_rfl
def Qj:af aH 23=true:=by kernel_rfl
def Qi:af aH 24=true:=by kernel_rfl
def Qh:af aH 25=true:=by kernel_rfl
def NL:af aH 26=true:=by kernel_rfl
def Qg:af aH 27=true:=by kernel_rfl
def Qf:af aH 28=true:=by kernel_rfl
def NK:af aH 29=true:=by kernel_rfl
def Qe:af aH 30=true:=by kernel_rfl
def Qd:af aH 31=true:=by kernel_rfl
def Qc:af aH 32=true:=by kernel_rfl
def Qb:af aH 33=true:=by kernel_rfl
def Qa:af aH 34=true:=by kernel_rfl
def PZ:af aH 35=true:=by kernel_rfl
def PY:af aH 36=true:=by kernel_rfl
def Kd:af aH 37=true:=by kernel_rfl
def NJ:af aH 38=true:=by kernel_rfl
def PX:af aH 39=true:=by kernel_rfl
def PW:af aH 40=true:=by kernel_rfl
def PV:af aH 41=true:=by kernel_rfl
def PU:af aH 42=true:=by kernel_rfl
def PT:af aH 43=true:=by kernel_rfl
def PS:af aH 44=true:=by kernel_rfl
def PR:af aH 56=true:=by kernel_rfl
def PQ:af aH 57=true:=by kernel_rfl
def PP:af aH 58=true:=by kernel_rfl
def Kc:af aH 59=true:=by kernel_rfl
def PO:af aH 60=true:=by kernel_rfl
def PN:af aH 61=true:=by kernel_rfl
def PM:af aH 62=true:=by kernel_rfl
def PL:af aH 63=true:=by kernel_rfl
def PK:af aH 65=true:=by kernel_rfl
def PJ:af aH 75=true:=by kernel_rfl
def NI:af aH 76=true:=by kernel_rfl
def PI:af aH 77=true:=by kernel_rfl
def PH:af aH 78=true:=by kernel_rfl
def PG:af aH 79=true:=by kernel_rfl
def PF:af aH 80=true:=by kernel_rfl
def PE:af aH 81=true:=by kernel_rfl
def PD:af aH 82=true:=by kernel_rfl
def PC:af aH 83=true:=by kernel_rfl
def PB:af aH 84=true:=by kernel_rfl
def PA:af aH 85=true:=by kernel_rfl
def Pz:af aH 86=true:=by kernel_rfl
def NH:af aH 87=true:=by kernel_rfl
def NF:af aH 88=true:=by kernel_rfl
def Cn:af aH 89=true:=by kernel_rfl
def Py:af aH 90=true:=by kernel_rfl
def Px:af aH 91=true:=by kernel_rfl
def Pw:af aH 92=true:=by kernel_rfl
def Pv:af aH 93=true:=by kernel_rfl
def Pu:af aH 94=true:=by kernel_rfl
def Pt:af aH 95=true:=by kernel_rfl
def Ps:af aH 96=true:=by kernel_rfl
def Pr:af aH 97=true:=by kernel_rfl
def Pq:af aH 98=true:=by kernel_rfl
def ND:af aH 99=true:=by kernel_rfl
def KS:af aH 100=true:=by kernel_rfl
def OL:af aH 113=true:=by kernel_rfl
def OK:af aH 114=true:=by kernel_rfl
def OJ:af aH 115=true:=by kernel_rfl
def OH:af aH 116=true:=by kernel_rfl
def OG:af aH 117=true:=by kernel_rfl
def OF:af aH 118=true:=by kernel_rfl
def KR:af aH 119=true:=by kernel_rfl
def OC:af aH 120=true:=by kernel_rfl
def KP:af aH 121=true:=by kernel_rfl
def OB:af aH 122=true:=by kernel_rfl
def OA:af aH 123=true:=by kernel_rfl
def Oz:af aH 124=true:=by kernel_rfl
def Oy:af aH 125=true:=by kernel_rfl
def Ox:af aH 126=true:=by kernel_rfl
def Ow:af aH 127=true:=by kernel_rfl
def Ov:af aH 128=true:=by kernel_rfl
def KO:af aH 129=true:=by kernel_rfl
def KN:af aH 130=true:=by kernel_rfl
def KM:af aH 131=true:=by kernel_rfl
def Ou:af aH 132=true:=by kernel_rfl
def Ot:af aH 133=true:=by kernel_rfl
def Oq:af aH 134=true:=by kernel_rfl
def Oo:af aH 135=true:=by kernel_rfl
def KL:af aH 136=true:=by kernel_rfl
def Ii:af aH 137=true:=by kernel_rfl
def Fg:af aH 138=true:=by kernel_rfl
def KK:af aH 139=true:=by kernel_rfl
def Ih:af aH 140=true:=by kernel_rfl
def KJ:af aH 141=true:=by kernel_rfl
def KI:af aH 142=true:=by kernel_rfl
def Ig:af aH 143=true:=by kernel_rfl
def Ol:af aH 155=true:=by kernel_rfl
def If:af aH 158=true:=by kernel_rfl
def Ok:af aH 159=true:=by kernel_rfl
def Oj:af aH 160=true:=by kernel_rfl
def Oi:af aH 161=true:=by kernel_rfl
def Oh:af aH 162=true:=by kernel_rfl
def Og:af aH 163=true:=by kernel_rfl
def Od:af aH 170=true:=by kernel_rfl
def Oc:af aH 171=true:=by kernel_rfl
def Oa:af aH 172=true:=by kernel_rfl
def N9:af aH 173=true:=by kernel_rfl
def N8:af aH 174=true:=by kernel_rfl
def Ie:af aH 175=true:=by kernel_rfl
def N7:af aH 176=true:=by kernel_rfl
def N6:af aH 177=true:=by kernel_rfl
def KH:af aH 178=true:=by kernel_rfl
def N5:af aH 179=true:=by kernel_rfl
def N4:af aH 180=true:=by kernel_rfl
def N3:af aH 181=true:=by kernel_rfl
def N2:af aH 182=true:=by kernel_rfl
def KG:af aH 189=true:=by kernel_rfl
def N1:af aH 201=true:=by kernel_rfl
def N0:af aH 202=true:=by kernel_rfl
def NZ:af aH 203=true:=by kernel_rfl
def NY:af aH 204=true:=by kernel_rfl
def NX:af aH 212=true:=by kernel_rfl
def NW:af aH 213=true:=by kernel_rfl
def NV:af aH 214=true:=by kernel_rfl
def NU:af aH 215=true:=by kernel_rfl
def NT:af aH 216=true:=by kernel_rfl
def NR:af aH 221=true:=by kernel_rfl
def NQ:af aH 233=true:=by kernel_rfl
def NP:af aH 234=true:=by kernel_rfl
def NO:af aH 235=true:=by kernel_rfl
def NN:af aH 238=true:=by kernel_rfl
def NM:af aH 243=true:=by kernel_rfl
def OT:ZV aH 3 (.int .i64 0):=(show(Tryz.prog.info? 3).bind (fun i=>i.zero)=some (.int .i64 0) by kernel_rfl)
def zv4:ZV aH 4 (.bool false):=(show(Tryz.prog.info? 4).bind (fun i=>i.zero)=some (.bool false) by kernel_rfl)
def Mw:ZV aH 35 (.slice none 0 0):=(show(Tryz.prog.info? 35).bind (fun i=>i.zero)=some (.slice none 0 0) by kernel_rfl)
def Pp:GD aH 80 (lC (rI .i64) 2):=GD.of (by kernel_rfl) (gG (J5 (n:=1) xa cF rfl rfl (oN (n:=0) qz)) 18)
def NA:ii aH 91 dS 2:=td (n:=1) (fs:=[(9,0,false),(9,1,false)]) (by kernel_rfl) (by kernel_rfl) rfl (zZ.cons j5 rfl rfl vw (gG (Bd (n:=0) kx) 0) (zZ.cons j5 rfl rfl vv (gG (Bd (n:=0) kx) 0) zZ.nil)) (fun x y=>by cases x;cases y;simp [Bool.decide_and])
def Po:GD aH 91 dS:=GD.of (by kernel_rfl) (gG NA 18)
def H2:ii aH 104 dd 2:=td (n:=1) (fs:=[(3,0,false),(2,1,false),(102,2,false),(9,3,false)]) (by kernel_rfl) (by kernel_rfl) rfl (zZ.cons cF rfl rfl pL (gG (oN (n:=0) qz) 0) (zZ.cons Mr rfl rfl pK (gG (oN (n:=0) Tryz.underlying2) 0) (zZ.cons Kz rfl rfl Dz (gG (oN (n:=0) Tryz.underlying102) 0) (zZ.cons j5 rfl rfl nO (gG (Bd (n:=0) kx) 0) zZ.nil)))) (fun x y=>by cases x;cases y;simp [Bool.decide_and])
def Fa:GD aH 104 dd:=GD.of (by kernel_rfl) (gG H2 18)
def Mk:ii aH 106 bg 3:=td (n:=2) (fs:=[(3,0,false),(3,1,false),(3,2,false),(3,3,false),(104,4,false)]) (by kernel_rfl) (by kernel_rfl) rfl (zZ.cons cF rfl rfl gF (gG (oN (n:=0) qz) 1) (zZ.cons cF rfl rfl pN (gG (oN (n:=0) qz) 1) (zZ.cons cF rfl rfl pM (gG (oN (n:=0) qz) 1) (zZ.cons cF rfl rfl jC (gG (oN (n:=0) qz) 1) (zZ.cons mq rfl rfl nR (gG H2 0) zZ.nil))))) (fun x y=>by cases x;cases y;simp [Bool.decide_and])
def NB:GD aH 106 bg:=GD.of (by kernel_rfl) (gG Mk 17)
def M6:Iv aH 91 gb:=O7 (r:=dS) (mk:=fun p=>(⟨p.1,p.2⟩:iK)) Tryz.underlying91 rfl kx j5 rfl rfl (fun p=>⟨[_],[_],rfl,rfl,rfl⟩) (fun p q h=>by obtain⟨p1,p2⟩:=p;obtain⟨q1,q2⟩:=q;simpa using h) Po
def M7{S:SH}{cs:List Value}{y:iK}(h:dS.rc S cs y):cs=[cR y.Table,cR y.Name]:=by
 obtain⟨a,b,e,H,J⟩:=h
 rw [e,show a=_ from H,show b=_ from J]
 rfl
def upX:Go.Proofs.Builder.Extra aH jo:={sizeBuilder:=by kernel_rfl,liesBuilder:=by kernel_rfl,t5:=GQ,a5:=Tryz.isAgg5,z5:=Tryz.sizeOf5,v5:=Tryz.zeroValue5,infoByte:=by kernel_rfl,cellsByte:=by kernel_rfl,sizeByte:=by kernel_rfl,neB5:=by decide}

end Go.Proofs.YthbdkceckjihgaaGreatDoor

