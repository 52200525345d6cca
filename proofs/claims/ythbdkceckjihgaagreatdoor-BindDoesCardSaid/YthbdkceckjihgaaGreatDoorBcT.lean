/- dm of this claim: T. -/
import Derived.Test.YthbdkceckjihgaaGreatDoorBcD
import Derived.Test.YthbdkceckjihgaaGreatDoorProg
import Derived.Test.YthbdkceckjihgaaGreatDoorBcS
import Derived.Test.YthbdkceckjihgaaGreatDoorBcV4
import Derived.Shelf.Strings.CaseAny
import Derived.KernelRfl
set_option linter.all false
namespace Go.Proofs.YthbdkceckjihgaaGreatDoor
open Go
noncomputable abbrev bd:=Tryz.prog
def fH:= @Tryz.underlying35
def nG:= @Tryz.underlying9
def mv:= @Tryz.underlying60
def nb:= @Tryz.underlying50
def ol:= @Tryz.underlying108
def oQ:= @Tryz.underlying64
def pe:= @Tryz.underlying46
def qp:= @Tryz.underlying22
def rD:= @Tryz.underlying49
def tL:= @Tryz.underlying28
def tK:= @Tryz.underlying34
def vy:= @Tryz.underlying3
def wj:= @Tryz.underlying53
def wi:= @Tryz.underlying63
def wZ:= @Tryz.underlying29
def FR:= @Tryz.underlying4
def FP:= @Tryz.underlying59
def FO:= @Tryz.underlying80
def A5:= @Tryz.underlying33
def Cv:= @Tryz.underlying36
def FY:= @Tryz.underlying230
def EF:= @Tryz.underlying280
def FX:= @Tryz.underlying164
def Iz:= @Tryz.underlying135
def O9:= @Tryz.underlying5
def KR:= @Tryz.underlying242

def mixed:Tryz.prog.follows .mixedOrders=true:=by kernel_rfl
def UC:TI bd 2 1 8 false [.int .i64 0]:=⟨by kernel_rfl,by kernel_rfl⟩
def cF:TI bd 3 1 8 false [.int .i64 0]:=⟨by kernel_rfl,by kernel_rfl⟩
def xV:TI bd 4 1 1 false [.bool false]:=⟨by kernel_rfl,by kernel_rfl⟩
def X3:TI bd 5 1 1 false [.int .u8 0]:=⟨by kernel_rfl,by kernel_rfl⟩
def ja:TI bd 9 1 16 false [.string ⟨#[]⟩]:=⟨by kernel_rfl,by kernel_rfl⟩
def sL:TI bd 22 1 24 false [.slice none 0 0]:=⟨by kernel_rfl,by kernel_rfl⟩
def pl:TI bd 24 1 24 true [.slice none 0 0]:=⟨by kernel_rfl,by kernel_rfl⟩
def zq:TI bd 28 1 24 false [.slice none 0 0]:=⟨by kernel_rfl,by kernel_rfl⟩
def BF:TI bd 29 1 24 false [.slice none 0 0]:=⟨by kernel_rfl,by kernel_rfl⟩
def vF:TI bd 31 3 56 true [.slice none 0 0,.slice none 0 0,.int .i64 0]:=⟨by kernel_rfl,by kernel_rfl⟩
def H5:TI bd 33 1 24 false [.slice none 0 0]:=⟨by kernel_rfl,by kernel_rfl⟩
def Gc:TI bd 34 1 24 false [.slice none 0 0]:=⟨by kernel_rfl,by kernel_rfl⟩
def fV:TI bd 35 1 24 false [.slice none 0 0]:=⟨by kernel_rfl,by kernel_rfl⟩
def JO:TI bd 36 1 24 false [.slice none 0 0]:=⟨by kernel_rfl,by kernel_rfl⟩
def ke:TI bd 38 5 104 true [.slice none 0 0,.slice none 0 0,.slice none 0 0,.slice none 0 0,.int .i64 0]:=⟨by kernel_rfl,by kernel_rfl⟩
def vE:TI bd 46 1 24 false [.slice none 0 0]:=⟨by kernel_rfl,by kernel_rfl⟩
def tQ:TI bd 48 2 32 true [.string ⟨#[]⟩,.string ⟨#[]⟩]:=⟨by kernel_rfl,by kernel_rfl⟩
def vD:TI bd 49 1 24 false [.slice none 0 0]:=⟨by kernel_rfl,by kernel_rfl⟩
def qi:TI bd 50 1 24 false [.slice none 0 0]:=⟨by kernel_rfl,by kernel_rfl⟩
def iw:TI bd 52 1 24 true [.slice none 0 0]:=⟨by kernel_rfl,by kernel_rfl⟩
def zp:TI bd 53 1 24 false [.slice none 0 0]:=⟨by kernel_rfl,by kernel_rfl⟩
def pj:TI bd 55 9 160 true [.bool false,.bool false,.slice none 0 0,.string ⟨#[]⟩,.string ⟨#[]⟩,.slice none 0 0,.slice none 0 0,.slice none 0 0,.slice none 0 0]:=⟨by kernel_rfl,by kernel_rfl⟩
def vC:TI bd 57 3 32 true [.string ⟨#[]⟩,.int .i64 0,.bool false]:=⟨by kernel_rfl,by kernel_rfl⟩
def Gb:TI bd 59 1 24 false [.slice none 0 0]:=⟨by kernel_rfl,by kernel_rfl⟩
def sB:TI bd 60 1 24 false [.slice none 0 0]:=⟨by kernel_rfl,by kernel_rfl⟩
def bJ:TI bd 62 1 24 true [.slice none 0 0]:=⟨by kernel_rfl,by kernel_rfl⟩
def xU:TI bd 63 1 24 false [.slice none 0 0]:=⟨by kernel_rfl,by kernel_rfl⟩
def DG:TI bd 64 1 24 false [.slice none 0 0]:=⟨by kernel_rfl,by kernel_rfl⟩
def BE:TI bd 66 9 176 true [.slice none 0 0,.slice none 0 0,.slice none 0 0,.slice none 0 0,.bool false,.bool false,.slice none 0 0,.slice none 0 0,.slice none 0 0]:=⟨by kernel_rfl,by kernel_rfl⟩
def H4:TI bd 71 2 32 true [.bool false,.slice none 0 0]:=⟨by kernel_rfl,by kernel_rfl⟩
def ut:TI bd 73 2 32 true [.int .i64 0,.slice none 0 0]:=⟨by kernel_rfl,by kernel_rfl⟩
def H3:TI bd 77 2 16 true [.int .i64 0,.bool false]:=⟨by kernel_rfl,by kernel_rfl⟩
def JN:TI bd 80 2 16 true (List.replicate 2 (.int .i64 0)):=⟨by kernel_rfl,by kernel_rfl⟩
def my:TI bd 86 4 64 true [.bool false,.string ⟨#[]⟩,.string ⟨#[]⟩,.slice none 0 0]:=⟨by kernel_rfl,by kernel_rfl⟩
def nH:TI bd 88 2 40 true [.slice none 0 0,.string ⟨#[]⟩]:=⟨by kernel_rfl,by kernel_rfl⟩
def vB:TI bd 91 2 32 true [.string ⟨#[]⟩,.string ⟨#[]⟩]:=⟨by kernel_rfl,by kernel_rfl⟩
def Lb:TI bd 102 1 8 false [.int .u64 0]:=⟨by kernel_rfl,by kernel_rfl⟩
def lg:TI bd 104 4 40 true [.int .i64 0,.int .i64 0,.int .u64 0,.string ⟨#[]⟩]:=⟨by kernel_rfl,by kernel_rfl⟩
def eH:TI bd 106 8 72 true [.int .i64 0,.int .i64 0,.int .i64 0,.int .i64 0,.int .i64 0,.int .i64 0,.int .u64 0,.string ⟨#[]⟩]:=⟨by kernel_rfl,by kernel_rfl⟩
def oq:TI bd 108 1 24 false [.slice none 0 0]:=⟨by kernel_rfl,by kernel_rfl⟩
def jN:TI bd 110 3 64 true [.string ⟨#[]⟩,.slice none 0 0,.slice none 0 0]:=⟨by kernel_rfl,by kernel_rfl⟩
def jg:TI bd 113 2 24 true [.string ⟨#[]⟩,.int .i64 0]:=⟨by kernel_rfl,by kernel_rfl⟩
def La:TI bd 122 1 8 false [.pointer none]:=⟨by kernel_rfl,by kernel_rfl⟩
def WZ:TI bd 123 1 8 false [.map none]:=⟨by kernel_rfl,by kernel_rfl⟩
def K9:TI bd 124 1 8 false [.map none]:=⟨by kernel_rfl,by kernel_rfl⟩
def WY:TI bd 125 1 8 false [.map none]:=⟨by kernel_rfl,by kernel_rfl⟩
def Z2:TI bd 127 25 440 true [.slice none 0 0,.bool false,.bool false,.slice none 0 0,.string ⟨#[]⟩,.string ⟨#[]⟩,.slice none 0 0,.slice none 0 0,.slice none 0 0,.slice none 0 0,.slice none 0 0,.slice none 0 0,.slice none 0 0,.slice none 0 0,.bool false,.bool false,.slice none 0 0,.slice none 0 0,.slice none 0 0,.map none,.map none,.map none,.slice none 0 0,.slice none 0 0,.int .i64 0]:=⟨by kernel_rfl,by kernel_rfl⟩
def WX:TI bd 128 1 8 false [.nilFunc]:=⟨by kernel_rfl,by kernel_rfl⟩
def Pm:TI bd 135 1 24 false [.slice none 0 0]:=⟨by kernel_rfl,by kernel_rfl⟩
def Z1:TI bd 137 11 224 true [.slice none 0 0,.slice none 0 0,.slice none 0 0,.slice none 0 0,.slice none 0 0,.slice none 0 0,.bool false,.bool false,.slice none 0 0,.slice none 0 0,.slice none 0 0]:=⟨by kernel_rfl,by kernel_rfl⟩
def ko:TI bd 162 9 96 true [.int .i64 0,.int .i64 0,.int .i64 0,.int .i64 0,.int .i64 0,.int .u64 0,.string ⟨#[]⟩,.string ⟨#[]⟩,.string ⟨#[]⟩]:=⟨by kernel_rfl,by kernel_rfl⟩
def IE:TI bd 164 1 8 false [.map none]:=⟨by kernel_rfl,by kernel_rfl⟩
def Z0:TI bd 176 1 8 false [.nilFunc]:=⟨by kernel_rfl,by kernel_rfl⟩
def ZZ:TI bd 179 6 48 true (List.replicate 6 (.nilFunc)):=⟨by kernel_rfl,by kernel_rfl⟩
def ZY:TI bd 200 1 8 false [.nilFunc]:=⟨by kernel_rfl,by kernel_rfl⟩
def ZX:TI bd 209 2 48 true (List.replicate 2 (.slice none 0 0)):=⟨by kernel_rfl,by kernel_rfl⟩
def K8:TI bd 211 1 8 false [.nilFunc]:=⟨by kernel_rfl,by kernel_rfl⟩
def Sz:TI bd 226 2 24 true [.string ⟨#[]⟩,.int .i64 0]:=⟨by kernel_rfl,by kernel_rfl⟩
def ZW:TI bd 227 6 72 true [.string ⟨#[]⟩,.int .i64 0,.string ⟨#[]⟩,.int .i64 0,.string ⟨#[]⟩,.int .i64 0]:=⟨by kernel_rfl,by kernel_rfl⟩
def Pk:TI bd 228 28 448 true (List.replicate 28 (.string ⟨#[]⟩)):=⟨by kernel_rfl,by kernel_rfl⟩
def Pj:TI bd 247 1 8 false [.nilFunc]:=⟨by kernel_rfl,by kernel_rfl⟩
def Pi:TI bd 248 1 8 false [.nilFunc]:=⟨by kernel_rfl,by kernel_rfl⟩
def A9:TI bd 300 2 16 true [.int .i64 0,.int .i64 0]:=⟨by kernel_rfl,by kernel_rfl⟩
def kX:bO bd 24 0=some (0,1):=by kernel_rfl
def pJ:bO bd 31 0=some (0,1):=by kernel_rfl
def si:bO bd 31 1=some (1,1):=by kernel_rfl
def zQ:bO bd 31 2=some (2,1):=by kernel_rfl
def xh:bO bd 38 0=some (0,1):=by kernel_rfl
def vZ:bO bd 38 1=some (1,1):=by kernel_rfl
def zP:bO bd 38 2=some (2,1):=by kernel_rfl
def yq:bO bd 38 3=some (3,1):=by kernel_rfl
def Tv:bO bd 38 4=some (4,1):=by kernel_rfl
def Ek:bO bd 48 0=some (0,1):=by kernel_rfl
def Ej:bO bd 48 1=some (1,1):=by kernel_rfl
def ik:bO bd 52 0=some (0,1):=by kernel_rfl
def Kh:bO bd 55 0=some (0,1):=by kernel_rfl
def yp:bO bd 55 1=some (1,1):=by kernel_rfl
def ma:bO bd 55 2=some (2,1):=by kernel_rfl
def Ei:bO bd 55 3=some (3,2):=by kernel_rfl
def mi:bO bd 55 4=some (5,1):=by kernel_rfl
def xg:bO bd 55 5=some (6,1):=by kernel_rfl
def uF:bO bd 55 6=some (7,1):=by kernel_rfl
def ri:bO bd 55 7=some (8,1):=by kernel_rfl
def yo:bO bd 57 0=some (0,1):=by kernel_rfl
def vY:bO bd 57 1=some (1,1):=by kernel_rfl
def Tt:bO bd 57 2=some (2,1):=by kernel_rfl
def jV:bO bd 62 0=some (0,1):=by kernel_rfl
def rh:bO bd 66 0=some (0,1):=by kernel_rfl
def vX:bO bd 66 1=some (1,1):=by kernel_rfl
def Kg:bO bd 66 2=some (2,1):=by kernel_rfl
def Kf:bO bd 66 3=some (3,1):=by kernel_rfl
def uE:bO bd 66 4=some (4,1):=by kernel_rfl
def Ke:bO bd 66 5=some (5,1):=by kernel_rfl
def uD:bO bd 66 6=some (6,1):=by kernel_rfl
def nZ:bO bd 66 7=some (7,1):=by kernel_rfl
def sX:bO bd 66 8=some (8,1):=by kernel_rfl
def Ts:bO bd 71 0=some (0,1):=by kernel_rfl
def Tq:bO bd 71 1=some (1,1):=by kernel_rfl
def sf:bO bd 73 0=some (0,1):=by kernel_rfl
def yn:bO bd 73 1=some (1,1):=by kernel_rfl
def Kd:bO bd 86 0=some (0,1):=by kernel_rfl
def Eh:bO bd 86 1=some (1,2):=by kernel_rfl
def zO:bO bd 86 2=some (3,1):=by kernel_rfl
def ql:bO bd 88 0=some (0,1):=by kernel_rfl
def Eg:bO bd 88 1=some (1,1):=by kernel_rfl
def Kc:bO bd 91 0=some (0,1):=by kernel_rfl
def Kb:bO bd 91 1=some (1,1):=by kernel_rfl
def tB:bO bd 104 0=some (0,1):=by kernel_rfl
def vd:bO bd 104 1=some (1,1):=by kernel_rfl
def FF:bO bd 104 2=some (2,1):=by kernel_rfl
def qa:bO bd 104 3=some (3,1):=by kernel_rfl
def m7:bO bd 106 0=some (0,1):=by kernel_rfl
def o8:bO bd 106 1=some (1,1):=by kernel_rfl
def n4:bO bd 106 2=some (2,1):=by kernel_rfl
def p9:bO bd 106 3=some (3,1):=by kernel_rfl
def wP:bO bd 106 4=some (4,4):=by kernel_rfl
def wO:bO bd 110 0=some (0,1):=by kernel_rfl
def iF:bO bd 110 1=some (1,1):=by kernel_rfl
def o7:bO bd 110 2=some (2,1):=by kernel_rfl
def tA:bO bd 113 0=some (0,1):=by kernel_rfl
def FE:bO bd 113 1=some (1,1):=by kernel_rfl
def Kk:bO bd 127 0=some (0,1):=by kernel_rfl
def o6:bO bd 127 1=some (1,9):=by kernel_rfl
def gE:bO bd 127 2=some (10,9):=by kernel_rfl
def PW:bO bd 127 3=some (19,1):=by kernel_rfl
def Kj:bO bd 127 4=some (20,1):=by kernel_rfl
def PV:bO bd 127 5=some (21,1):=by kernel_rfl
def wN:bO bd 127 6=some (22,1):=by kernel_rfl
def AB:bO bd 127 7=some (23,1):=by kernel_rfl
def yu:bO bd 127 8=some (24,1):=by kernel_rfl
def wM:bO bd 137 0=some (0,1):=by kernel_rfl
def FD:bO bd 137 1=some (1,1):=by kernel_rfl
def eU:bO bd 137 2=some (2,9):=by kernel_rfl
def mf:bO bd 162 0=some (0,1):=by kernel_rfl
def wL:bO bd 162 1=some (1,1):=by kernel_rfl
def yr:bO bd 162 2=some (2,1):=by kernel_rfl
def qU:bO bd 162 3=some (3,4):=by kernel_rfl
def tz:bO bd 162 4=some (7,1):=by kernel_rfl
def qT:bO bd 162 5=some (8,1):=by kernel_rfl
def Vm:bO bd 226 0=some (0,1):=by kernel_rfl
def Vl:bO bd 226 1=some (1,1):=by kernel_rfl
def Ki:bO bd 300 0=some (0,1):=by kernel_rfl
def Dd:bO bd 300 1=some (1,1):=by kernel_rfl
def aak:gO bd 24=some [(0,1)]:=by kernel_rfl
def acg:gO bd 31=some [(0,1),(1,1),(2,1)]:=by kernel_rfl
def Ff:gO bd 38=some [(0,1),(1,1),(2,1),(3,1),(4,1)]:=by kernel_rfl
def acf:gO bd 48=some [(0,1),(1,1)]:=by kernel_rfl
def aai:gO bd 52=some [(0,1)]:=by kernel_rfl
def ace:gO bd 55=some [(0,1),(1,1),(2,1),(3,2),(5,1),(6,1),(7,1),(8,1)]:=by kernel_rfl
def acd:gO bd 57=some [(0,1),(1,1),(2,1)]:=by kernel_rfl
def BX:gO bd 62=some [(0,1)]:=by kernel_rfl
def aah:gO bd 71=some [(0,1),(1,1)]:=by kernel_rfl
def aag:gO bd 73=some [(0,1),(1,1)]:=by kernel_rfl
def aaf:gO bd 77=some [(0,1),(1,1)]:=by kernel_rfl
def acc:gO bd 88=some [(0,1),(1,1)]:=by kernel_rfl
def aae:gO bd 91=some [(0,1),(1,1)]:=by kernel_rfl
def C7:gO bd 104=some [(0,1),(1,1),(2,1),(3,1)]:=by kernel_rfl
def yQ:gO bd 106=some [(0,1),(1,1),(2,1),(3,1),(4,4)]:=by kernel_rfl
def Xi:gO bd 110=some [(0,1),(1,1),(2,1)]:=by kernel_rfl
def Tk:gO bd 113=some [(0,1),(1,1)]:=by kernel_rfl
def aan:gO bd 127=some [(0,1),(1,9),(10,9),(19,1),(20,1),(21,1),(22,1),(23,1),(24,1)]:=by kernel_rfl
def aam:gO bd 137=some [(0,1),(1,1),(2,9)]:=by kernel_rfl
def aal:gO bd 162=some [(0,1),(1,1),(2,1),(3,4),(7,1),(8,1)]:=by kernel_rfl
def aaj:gO bd 300=some [(0,1),(1,1)]:=by kernel_rfl
def cb9:ak bd 9=true:=by kernel_rfl
def abU:ak bd 10=true:=by kernel_rfl
def Zr:ak bd 11=true:=by kernel_rfl
def Zq:ak bd 12=true:=by kernel_rfl
def adi:ak bd 13=true:=by kernel_rfl
def adh:ak bd 14=true:=by kernel_rfl
def adg:ak bd 15=true:=by kernel_rfl
def adf:ak bd 16=true:=by kernel_rfl
def WC:ak bd 19=true:=by kernel_rfl
def ade:ak bd 22=true:=by kernel_rfl
def adc:ak bd 23=true:=by kernel_rfl
def R2:ak bd 24=true:=by kernel_rfl
def adb:ak bd 26=true:=by kernel_rfl
def ada:ak bd 27=true:=by kernel_rfl
def ac9:ak bd 28=true:=by kernel_rfl
def aaT:ak bd 29=true:=by kernel_rfl
def ac8:ak bd 30=true:=by kernel_rfl
def ac7:ak bd 31=true:=by kernel_rfl
def ac6:ak bd 32=true:=by kernel_rfl
def ac5:ak bd 33=true:=by kernel_rfl
def ac4:ak bd 34=true:=by kernel_rfl
def ac3:ak bd 35=true:=by kernel_rfl
def ac2:ak bd 36=true:=by kernel_rfl
def WB:ak bd 37=true:=by kernel_rfl
def ac1:ak bd 38=true:=by kernel_rfl
def ac0:ak bd 39=true:=by kernel_rfl
def acZ:ak bd 40=true:=by kernel_rfl
def acY:ak bd 41=true:=by kernel_rfl
def acX:ak bd 42=true:=by kernel_rfl
def acW:ak bd 43=true:=by kernel_rfl
def acV:ak bd 44=true:=by kernel_rfl
def acU:ak bd 45=true:=by kernel_rfl
def acT:ak bd 46=true:=by kernel_rfl
def acS:ak bd 47=true:=by kernel_rfl
def acR:ak bd 48=true:=by kernel_rfl
def acQ:ak bd 49=true:=by kernel_rfl
def acP:ak bd 50=true:=by kernel_rfl
def acO:ak bd 51=true:=by kernel_rfl
def Zp:ak bd 52=true:=by kernel_rfl
def acN:ak bd 53=true:=by kernel_rfl
def acM:ak bd 54=true:=by kernel_rfl
def acL:ak bd 55=true:=by kernel_rfl
def WA:ak bd 59=true:=by kernel_rfl
def acK:ak bd 60=true:=by kernel_rfl
def acJ:ak bd 61=true:=by kernel_rfl
def acI:ak bd 62=true:=by kernel_rfl
def acH:ak bd 63=true:=by kernel_rfl
def acG:ak bd 65=true:=by kernel_rfl
def acF:ak bd 75=true:=by kernel_rfl
def aaS:ak bd 76=true:=by kernel_rfl
def acE:ak bd 77=true:=by kernel_rfl
def acD:ak bd 78=true:=by kernel_rfl
def acC:ak bd 79=true:=by kernel_rfl
def acB:ak bd 80=true:=by kernel_rfl
def acA:ak bd 81=true:=by kernel_rfl
def acz:ak bd 82=true:=by kernel_rfl
def acy:ak bd 83=true:=by kernel_rfl
def acx:ak bd 84=true:=by kernel_rfl
def acw:ak bd 85=true:=by kernel_rfl
def acv:ak bd 86=true:=by kernel_rfl
def aaR:ak bd 87=true:=by kernel_rfl
def aaQ:ak bd 88=true:=by kernel_rfl
def Mw:ak bd 89=true:=by kernel_rfl
def acu:ak bd 90=true:=by kernel_rfl
def act:ak bd 91=true:=by kernel_rfl
def acs:ak bd 92=true:=by kernel_rfl
def acr:ak bd 93=true:=by kernel_rfl
def acq:ak bd 94=true:=by kernel_rfl
def acp:ak bd 95=true:=by kernel_rfl
def aco:ak bd 96=true:=by kernel_rfl
def acn:ak bd 97=true:=by kernel_rfl
def acm:ak bd 98=true:=by kernel_rfl
def aaP:ak bd 99=true:=by kernel_rfl
def XE:ak bd 100=true:=by kernel_rfl
def abT:ak bd 101=true:=by kernel_rfl
def Mx:ak bd 102=true:=by kernel_rfl
def XD:ak bd 103=true:=by kernel_rfl
def Uf:ak bd 104=true:=by kernel_rfl
def XC:ak bd 105=true:=by kernel_rfl
def Jo:ak bd 106=true:=by kernel_rfl
def Ue:ak bd 107=true:=by kernel_rfl
def Ud:ak bd 108=true:=by kernel_rfl
def Qy:ak bd 109=true:=by kernel_rfl
def Jn:ak bd 110=true:=by kernel_rfl
def abS:ak bd 111=true:=by kernel_rfl
def Qx:ak bd 112=true:=by kernel_rfl
def abR:ak bd 114=true:=by kernel_rfl
def abQ:ak bd 115=true:=by kernel_rfl
def abP:ak bd 116=true:=by kernel_rfl
def abO:ak bd 117=true:=by kernel_rfl
def abN:ak bd 118=true:=by kernel_rfl
def XB:ak bd 119=true:=by kernel_rfl
def abM:ak bd 120=true:=by kernel_rfl
def XA:ak bd 121=true:=by kernel_rfl
def abL:ak bd 122=true:=by kernel_rfl
def abK:ak bd 123=true:=by kernel_rfl
def abJ:ak bd 124=true:=by kernel_rfl
def Xz:ak bd 125=true:=by kernel_rfl
def abI:ak bd 126=true:=by kernel_rfl
def abH:ak bd 127=true:=by kernel_rfl
def abG:ak bd 128=true:=by kernel_rfl
def Xy:ak bd 129=true:=by kernel_rfl
def Xx:ak bd 130=true:=by kernel_rfl
def Xw:ak bd 131=true:=by kernel_rfl
def abF:ak bd 132=true:=by kernel_rfl
def abE:ak bd 133=true:=by kernel_rfl
def abD:ak bd 134=true:=by kernel_rfl
def abC:ak bd 135=true:=by kernel_rfl
def Xv:ak bd 136=true:=by kernel_rfl
def Uc:ak bd 137=true:=by kernel_rfl
def Qw:ak bd 138=true:=by kernel_rfl
def Xu:ak bd 139=true:=by kernel_rfl
def Ub:ak bd 140=true:=by kernel_rfl
def Xt:ak bd 141=true:=by kernel_rfl
def Xs:ak bd 142=true:=by kernel_rfl
def Ua:ak bd 143=true:=by kernel_rfl
def T9:ak bd 144=true:=by kernel_rfl
def Xr:ak bd 145=true:=by kernel_rfl
def Qv:ak bd 146=true:=by kernel_rfl
def Xq:ak bd 147=true:=by kernel_rfl
def abB:ak bd 148=true:=by kernel_rfl
def T8:ak bd 149=true:=by kernel_rfl
def abA:ak bd 150=true:=by kernel_rfl
def Qu:ak bd 151=true:=by kernel_rfl
def Xp:ak bd 152=true:=by kernel_rfl
def abz:ak bd 153=true:=by kernel_rfl
def aby:ak bd 154=true:=by kernel_rfl
def abx:ak bd 155=true:=by kernel_rfl
def T7:ak bd 158=true:=by kernel_rfl
def abw:ak bd 159=true:=by kernel_rfl
def abv:ak bd 160=true:=by kernel_rfl
def abu:ak bd 161=true:=by kernel_rfl
def abt:ak bd 162=true:=by kernel_rfl
def abs:ak bd 163=true:=by kernel_rfl
def abr:ak bd 170=true:=by kernel_rfl
def abq:ak bd 171=true:=by kernel_rfl
def abp:ak bd 172=true:=by kernel_rfl
def abo:ak bd 173=true:=by kernel_rfl
def abn:ak bd 174=true:=by kernel_rfl
def T6:ak bd 175=true:=by kernel_rfl
def abm:ak bd 176=true:=by kernel_rfl
def abl:ak bd 177=true:=by kernel_rfl
def Xo:ak bd 178=true:=by kernel_rfl
def abk:ak bd 179=true:=by kernel_rfl
def abj:ak bd 180=true:=by kernel_rfl
def abi:ak bd 181=true:=by kernel_rfl
def abh:ak bd 182=true:=by kernel_rfl
def T5:ak bd 183=true:=by kernel_rfl
def abg:ak bd 184=true:=by kernel_rfl
def abf:ak bd 185=true:=by kernel_rfl
def abe:ak bd 186=true:=by kernel_rfl
def T4:ak bd 187=true:=by kernel_rfl
def Qt:ak bd 188=true:=by kernel_rfl
def Xn:ak bd 189=true:=by kernel_rfl
def abd:ak bd 201=true:=by kernel_rfl
def abc:ak bd 202=true:=by kernel_rfl
def abb:ak bd 203=true:=by kernel_rfl
def aba:ak bd 204=true:=by kernel_rfl
def aa9:ak bd 212=true:=by kernel_rfl
def aa8:ak bd 213=true:=by kernel_rfl
def aa7:ak bd 214=true:=by kernel_rfl
def aa6:ak bd 215=true:=by kernel_rfl
def aa5:ak bd 216=true:=by kernel_rfl
def Xm:ak bd 217=true:=by kernel_rfl
def aa4:ak bd 218=true:=by kernel_rfl
def aa3:ak bd 219=true:=by kernel_rfl
def aa2:ak bd 220=true:=by kernel_rfl
def aa1:ak bd 221=true:=by kernel_rfl
def aa0:ak bd 233=true:=by kernel_rfl
def aaZ:ak bd 234=true:=by kernel_rfl
def aaY:ak bd 235=true:=by kernel_rfl
def aaX:ak bd 236=true:=by kernel_rfl
def Xl:ak bd 237=true:=by kernel_rfl
def aaW:ak bd 238=true:=by kernel_rfl
def aaV:ak bd 243=true:=by kernel_rfl
def aaU:ak bd 244=true:=by kernel_rfl
def zv3:ZV bd 3 (.int .i64 0):=(show(Tryz.prog.info? 3).bind (fun i=>i.zero)=some (.int .i64 0) by kernel_rfl)
def zv4:ZV bd 4 (.bool false):=(show(Tryz.prog.info? 4).bind (fun i=>i.zero)=some (.bool false) by kernel_rfl)
def ZB:ZV bd 35 (.slice none 0 0):=(show(Tryz.prog.info? 35).bind (fun i=>i.zero)=some (.slice none 0 0) by kernel_rfl)
def aaJ:fJ bd 48 be 2:=pK (n:=1) (fs:=[(9,0,false),(9,1,false)]) (by kernel_rfl) (by kernel_rfl) rfl (xP.cons ja rfl rfl pH (ef (vf (n:=0) nG) 0) (xP.cons ja rfl rfl pG (ef (vf (n:=0) nG) 0) xP.nil)) (fun x y=>by cases x;cases y;simp [EE])
def aaL:FM bd 48 be:=FM.of (by kernel_rfl) (ef aaJ 18)
def aaI:fJ bd 57 je 2:=pK (n:=1) (fs:=[(9,0,false),(3,1,false),(4,2,false)]) (by kernel_rfl) (by kernel_rfl) rfl (xP.cons ja rfl rfl qI (ef (vf (n:=0) nG) 0) (xP.cons cF rfl rfl oz (ef (o9 (n:=0) vy) 0) (xP.cons xV rfl rfl He (ef (Ml (n:=0) FR) 0) xP.nil))) (fun x y=>by cases x;cases y;simp [EE])
def ack:FM bd 57 je:=FM.of (by kernel_rfl) (ef aaI 18)
def aaH:fJ bd 77 jd 2:=pK (n:=1) (fs:=[(3,0,false),(4,1,false)]) (by kernel_rfl) (by kernel_rfl) rfl (xP.cons cF rfl rfl Tn (ef (o9 (n:=0) vy) 0) (xP.cons xV rfl rfl Tm (ef (Ml (n:=0) FR) 0) xP.nil)) (fun x y=>by cases x;cases y;simp [EE])
def acj:FM bd 77 jd:=FM.of (by kernel_rfl) (ef aaH 18)
def aci:FM bd 80 (qD (rI .i64) 2):=FM.of (by kernel_rfl) (ef (Wt (n:=1) FO cF rfl rfl (o9 (n:=0) vy)) 18)
def aaG:fJ bd 91 fI 2:=pK (n:=1) (fs:=[(9,0,false),(9,1,false)]) (by kernel_rfl) (by kernel_rfl) rfl (xP.cons ja rfl rfl xG (ef (vf (n:=0) nG) 0) (xP.cons ja rfl rfl xF (ef (vf (n:=0) nG) 0) xP.nil)) (fun x y=>by cases x;cases y;simp [EE])
def aaK:FM bd 91 fI:=FM.of (by kernel_rfl) (ef aaG 18)
def Oj:fJ bd 104 ek 2:=pK (n:=1) (fs:=[(3,0,false),(2,1,false),(102,2,false),(9,3,false)]) (by kernel_rfl) (by kernel_rfl) rfl (xP.cons cF rfl rfl pE (ef (o9 (n:=0) vy) 0) (xP.cons UC rfl rfl pD (ef (o9 (n:=0) Tryz.underlying2) 0) (xP.cons Lb rfl rfl yl (ef (o9 (n:=0) Tryz.underlying102) 0) (xP.cons ja rfl rfl kW (ef (vf (n:=0) nG) 0) xP.nil)))) (fun x y=>by cases x;cases y;simp [EE])
def Dg:FM bd 104 ek:=FM.of (by kernel_rfl) (ef Oj 18)
def Zk:fJ bd 106 bt 3:=pK (n:=2) (fs:=[(3,0,false),(3,1,false),(3,2,false),(3,3,false),(104,4,false)]) (by kernel_rfl) (by kernel_rfl) rfl (xP.cons cF rfl rfl gN (ef (o9 (n:=0) vy) 1) (xP.cons cF rfl rfl mS (ef (o9 (n:=0) vy) 1) (xP.cons cF rfl rfl lZ (ef (o9 (n:=0) vy) 1) (xP.cons cF rfl rfl jw (ef (o9 (n:=0) vy) 1) (xP.cons lg rfl rfl nX (ef Oj 0) xP.nil))))) (fun x y=>by cases x;cases y;simp [EE])
def Xk:FM bd 106 bt:=FM.of (by kernel_rfl) (ef Zk 17)
def Zj:fJ bd 113 cQ 2:=pK (n:=1) (fs:=[(9,0,false),(3,1,false)]) (by kernel_rfl) (by kernel_rfl) rfl (xP.cons ja rfl rfl ky (ef (vf (n:=0) nG) 0) (xP.cons cF rfl rfl ud (ef (o9 (n:=0) vy) 0) xP.nil)) (fun x y=>by cases x;cases y;simp [EE])
def aaN:FM bd 113 cQ:=FM.of (by kernel_rfl) (ef Zj 18)
def Zi:fJ bd 162 dd 3:=pK (n:=2) (fs:=[(3,0,false),(3,1,false),(3,2,false),(104,3,false),(9,7,false),(9,8,false)]) (by kernel_rfl) (by kernel_rfl) rfl (xP.cons cF rfl rfl gY (ef (o9 (n:=0) vy) 1) (xP.cons cF rfl rfl p8 (ef (o9 (n:=0) vy) 1) (xP.cons cF rfl rfl ru (ef (o9 (n:=0) vy) 1) (xP.cons lg rfl rfl lL (ef Oj 0) (xP.cons ja rfl rfl oM (ef (vf (n:=0) nG) 1) (xP.cons ja rfl rfl mo (ef (vf (n:=0) nG) 1) xP.nil)))))) (fun x y=>by cases x;cases y;simp [EE])
def aaM:FM bd 162 dd:=FM.of (by kernel_rfl) (ef Zi 17)
def aaa:Sc bd 91 lc:=ab5 (r:=fI) (mk:=fun p=>(⟨p.1,p.2⟩:jY)) Tryz.underlying91 rfl nG ja rfl rfl (fun p=>⟨[_],[_],rfl,rfl,rfl⟩) (fun p q h=>by obtain⟨p1,p2⟩:=p;obtain⟨q1,q2⟩:=q;simpa using h) aaK
def aac{S:SH}{cs:List Value}{y:jY}(h:fI.rc S cs y):cs=[ew y.Table,ew y.Name]:=by
 obtain⟨a,b,e,H,J⟩:=h
 rw [e,show a=_ from H,show b=_ from J]
 rfl
def upX:Go.Proofs.Builder.Extra bd pc:={sizeBuilder:=by kernel_rfl,liesBuilder:=by kernel_rfl,t5:=O9,a5:=Tryz.isAgg5,z5:=Tryz.sizeOf5,v5:=Tryz.zeroValue5,infoByte:=by kernel_rfl,cellsByte:=by kernel_rfl,sizeByte:=by kernel_rfl,neB5:=by decide}

end Go.Proofs.YthbdkceckjihgaaGreatDoor

