/- cu of this claim: T. -/
import Derived.Test.YthbdkceckjihgaaGreatDoorBeD
import Derived.Test.YthbdkceckjihgaaGreatDoorProg
import Derived.Test.YthbdkceckjihgaaGreatDoorBeS
import Derived.Test.YthbdkceckjihgaaGreatDoorBeV4
import Derived.Shelf.Strings.CaseAny
import Derived.KernelRfl
set_option linter.all false
namespace Go.Proofs.YthbdkceckjihgaaGreatDoor
open Go
noncomputable abbrev aO:=Tryz.prog
def iO:= @Tryz.underlying35
def ik:= @Tryz.underlying9
def sF:= @Tryz.underlying28
def sE:= @Tryz.underlying46
def sD:= @Tryz.underlying64
def tW:= @Tryz.underlying108
def tU:= @Tryz.underlying50
def tS:= @Tryz.underlying60
def vQ:= @Tryz.underlying3
def vP:= @Tryz.underlying22
def xM:= @Tryz.underlying49
def AQ:= @Tryz.underlying29
def C8:= @Tryz.underlying53
def C7:= @Tryz.underlying80
def Fi:= @Tryz.underlying34
def BQ:= @Tryz.underlying280
def Dh:= @Tryz.underlying164
def FJ:= @Tryz.underlying63
def If:= @Tryz.underlying242
def TM:= @Tryz.underlying4

def mixed:Tryz.prog.follows .mixedOrders=true:=by kernel_rfl
def VW:TI aO 2 1 8 false [.int .i64 0]:=⟨by kernel_rfl,by kernel_rfl⟩
def dC:TI aO 3 1 8 false [.int .i64 0]:=⟨by kernel_rfl,by kernel_rfl⟩
def N1:TI aO 4 1 1 false [.bool false]:=⟨by kernel_rfl,by kernel_rfl⟩
def oH:TI aO 9 1 16 false [.string ⟨#[]⟩]:=⟨by kernel_rfl,by kernel_rfl⟩
def Dq:TI aO 22 1 24 false [.slice none 0 0]:=⟨by kernel_rfl,by kernel_rfl⟩
def rN:TI aO 24 1 24 true [.slice none 0 0]:=⟨by kernel_rfl,by kernel_rfl⟩
def yQ:TI aO 28 1 24 false [.slice none 0 0]:=⟨by kernel_rfl,by kernel_rfl⟩
def CA:TI aO 29 1 24 false [.slice none 0 0]:=⟨by kernel_rfl,by kernel_rfl⟩
def oQ:TI aO 31 3 56 true [.slice none 0 0,.slice none 0 0,.int .i64 0]:=⟨by kernel_rfl,by kernel_rfl⟩
def UN:TI aO 33 1 24 false [.slice none 0 0]:=⟨by kernel_rfl,by kernel_rfl⟩
def R6:TI aO 34 1 24 false [.slice none 0 0]:=⟨by kernel_rfl,by kernel_rfl⟩
def kc:TI aO 35 1 24 false [.slice none 0 0]:=⟨by kernel_rfl,by kernel_rfl⟩
def Wj:TI aO 36 1 24 false [.slice none 0 0]:=⟨by kernel_rfl,by kernel_rfl⟩
def oG:TI aO 38 5 104 true [.slice none 0 0,.slice none 0 0,.slice none 0 0,.slice none 0 0,.int .i64 0]:=⟨by kernel_rfl,by kernel_rfl⟩
def zP:TI aO 46 1 24 false [.slice none 0 0]:=⟨by kernel_rfl,by kernel_rfl⟩
def N0:TI aO 48 2 32 true [.string ⟨#[]⟩,.string ⟨#[]⟩]:=⟨by kernel_rfl,by kernel_rfl⟩
def AY:TI aO 49 1 24 false [.slice none 0 0]:=⟨by kernel_rfl,by kernel_rfl⟩
def AX:TI aO 50 1 24 false [.slice none 0 0]:=⟨by kernel_rfl,by kernel_rfl⟩
def jQ:TI aO 52 1 24 true [.slice none 0 0]:=⟨by kernel_rfl,by kernel_rfl⟩
def Cz:TI aO 53 1 24 false [.slice none 0 0]:=⟨by kernel_rfl,by kernel_rfl⟩
def np:TI aO 55 9 160 true [.bool false,.bool false,.slice none 0 0,.string ⟨#[]⟩,.string ⟨#[]⟩,.slice none 0 0,.slice none 0 0,.slice none 0 0,.slice none 0 0]:=⟨by kernel_rfl,by kernel_rfl⟩
def yP:TI aO 57 3 32 true [.string ⟨#[]⟩,.int .i64 0,.bool false]:=⟨by kernel_rfl,by kernel_rfl⟩
def Wi:TI aO 59 1 24 false [.slice none 0 0]:=⟨by kernel_rfl,by kernel_rfl⟩
def Ko:TI aO 60 1 24 false [.slice none 0 0]:=⟨by kernel_rfl,by kernel_rfl⟩
def cw:TI aO 62 1 24 true [.slice none 0 0]:=⟨by kernel_rfl,by kernel_rfl⟩
def PO:TI aO 63 1 24 false [.slice none 0 0]:=⟨by kernel_rfl,by kernel_rfl⟩
def NZ:TI aO 64 1 24 false [.slice none 0 0]:=⟨by kernel_rfl,by kernel_rfl⟩
def R5:TI aO 66 9 176 true [.slice none 0 0,.slice none 0 0,.slice none 0 0,.slice none 0 0,.bool false,.bool false,.slice none 0 0,.slice none 0 0,.slice none 0 0]:=⟨by kernel_rfl,by kernel_rfl⟩
def UM:TI aO 71 2 32 true [.bool false,.slice none 0 0]:=⟨by kernel_rfl,by kernel_rfl⟩
def Hc:TI aO 73 2 32 true [.int .i64 0,.slice none 0 0]:=⟨by kernel_rfl,by kernel_rfl⟩
def UL:TI aO 77 2 16 true [.int .i64 0,.bool false]:=⟨by kernel_rfl,by kernel_rfl⟩
def Hb:TI aO 80 2 16 true (List.replicate 2 (.int .i64 0)):=⟨by kernel_rfl,by kernel_rfl⟩
def uv:TI aO 86 4 64 true [.bool false,.string ⟨#[]⟩,.string ⟨#[]⟩,.slice none 0 0]:=⟨by kernel_rfl,by kernel_rfl⟩
def oP:TI aO 88 2 40 true [.slice none 0 0,.string ⟨#[]⟩]:=⟨by kernel_rfl,by kernel_rfl⟩
def AW:TI aO 91 2 32 true [.string ⟨#[]⟩,.string ⟨#[]⟩]:=⟨by kernel_rfl,by kernel_rfl⟩
def TW:TI aO 102 1 8 false [.int .u64 0]:=⟨by kernel_rfl,by kernel_rfl⟩
def qn:TI aO 104 4 40 true [.int .i64 0,.int .i64 0,.int .u64 0,.string ⟨#[]⟩]:=⟨by kernel_rfl,by kernel_rfl⟩
def iP:TI aO 106 8 72 true [.int .i64 0,.int .i64 0,.int .i64 0,.int .i64 0,.int .i64 0,.int .i64 0,.int .u64 0,.string ⟨#[]⟩]:=⟨by kernel_rfl,by kernel_rfl⟩
def zQ:TI aO 108 1 24 false [.slice none 0 0]:=⟨by kernel_rfl,by kernel_rfl⟩
def mq:TI aO 110 3 64 true [.string ⟨#[]⟩,.slice none 0 0,.slice none 0 0]:=⟨by kernel_rfl,by kernel_rfl⟩
def lN:TI aO 113 2 24 true [.string ⟨#[]⟩,.int .i64 0]:=⟨by kernel_rfl,by kernel_rfl⟩
def Iw:TI aO 122 1 8 false [.pointer none]:=⟨by kernel_rfl,by kernel_rfl⟩
def TV:TI aO 123 1 8 false [.map none]:=⟨by kernel_rfl,by kernel_rfl⟩
def Iv:TI aO 124 1 8 false [.map none]:=⟨by kernel_rfl,by kernel_rfl⟩
def TU:TI aO 125 1 8 false [.map none]:=⟨by kernel_rfl,by kernel_rfl⟩
def Wp:TI aO 127 25 440 true [.slice none 0 0,.bool false,.bool false,.slice none 0 0,.string ⟨#[]⟩,.string ⟨#[]⟩,.slice none 0 0,.slice none 0 0,.slice none 0 0,.slice none 0 0,.slice none 0 0,.slice none 0 0,.slice none 0 0,.slice none 0 0,.bool false,.bool false,.slice none 0 0,.slice none 0 0,.slice none 0 0,.map none,.map none,.map none,.slice none 0 0,.slice none 0 0,.int .i64 0]:=⟨by kernel_rfl,by kernel_rfl⟩
def TT:TI aO 128 1 8 false [.nilFunc]:=⟨by kernel_rfl,by kernel_rfl⟩
def pu:TI aO 162 9 96 true [.int .i64 0,.int .i64 0,.int .i64 0,.int .i64 0,.int .i64 0,.int .u64 0,.string ⟨#[]⟩,.string ⟨#[]⟩,.string ⟨#[]⟩]:=⟨by kernel_rfl,by kernel_rfl⟩
def FS:TI aO 164 1 8 false [.map none]:=⟨by kernel_rfl,by kernel_rfl⟩
def Wo:TI aO 176 1 8 false [.nilFunc]:=⟨by kernel_rfl,by kernel_rfl⟩
def Wn:TI aO 179 6 48 true (List.replicate 6 (.nilFunc)):=⟨by kernel_rfl,by kernel_rfl⟩
def Wm:TI aO 200 1 8 false [.nilFunc]:=⟨by kernel_rfl,by kernel_rfl⟩
def Wl:TI aO 209 2 48 true (List.replicate 2 (.slice none 0 0)):=⟨by kernel_rfl,by kernel_rfl⟩
def Iu:TI aO 211 1 8 false [.nilFunc]:=⟨by kernel_rfl,by kernel_rfl⟩
def PP:TI aO 226 2 24 true [.string ⟨#[]⟩,.int .i64 0]:=⟨by kernel_rfl,by kernel_rfl⟩
def Wk:TI aO 227 6 72 true [.string ⟨#[]⟩,.int .i64 0,.string ⟨#[]⟩,.int .i64 0,.string ⟨#[]⟩,.int .i64 0]:=⟨by kernel_rfl,by kernel_rfl⟩
def Mk:TI aO 247 1 8 false [.nilFunc]:=⟨by kernel_rfl,by kernel_rfl⟩
def Mj:TI aO 248 1 8 false [.nilFunc]:=⟨by kernel_rfl,by kernel_rfl⟩
def yg:TI aO 300 2 16 true [.int .i64 0,.int .i64 0]:=⟨by kernel_rfl,by kernel_rfl⟩
def tM:a8 aO 24 0=some (0,1):=by kernel_rfl
def pe:a8 aO 31 0=some (0,1):=by kernel_rfl
def tL:a8 aO 31 1=some (1,1):=by kernel_rfl
def Ln:a8 aO 31 2=some (2,1):=by kernel_rfl
def Lm:a8 aO 38 0=some (0,1):=by kernel_rfl
def HK:a8 aO 38 1=some (1,1):=by kernel_rfl
def Ll:a8 aO 38 2=some (2,1):=by kernel_rfl
def QX:a8 aO 38 3=some (3,1):=by kernel_rfl
def Lk:a8 aO 48 0=some (0,1):=by kernel_rfl
def Lj:a8 aO 48 1=some (1,1):=by kernel_rfl
def pR:a8 aO 52 0=some (0,1):=by kernel_rfl
def Vi:a8 aO 55 0=some (0,1):=by kernel_rfl
def HJ:a8 aO 55 1=some (1,1):=by kernel_rfl
def pd:a8 aO 55 2=some (2,1):=by kernel_rfl
def QW:a8 aO 55 3=some (3,2):=by kernel_rfl
def sk:a8 aO 55 4=some (5,1):=by kernel_rfl
def zi:a8 aO 55 5=some (6,1):=by kernel_rfl
def wB:a8 aO 55 6=some (7,1):=by kernel_rfl
def wA:a8 aO 55 7=some (8,1):=by kernel_rfl
def ED:a8 aO 57 0=some (0,1):=by kernel_rfl
def EC:a8 aO 57 1=some (1,1):=by kernel_rfl
def Vh:a8 aO 57 2=some (2,1):=by kernel_rfl
def zh:a8 aO 62 0=some (0,1):=by kernel_rfl
def Li:a8 aO 66 0=some (0,1):=by kernel_rfl
def QV:a8 aO 66 1=some (1,1):=by kernel_rfl
def Vg:a8 aO 66 2=some (2,1):=by kernel_rfl
def Vf:a8 aO 66 3=some (3,1):=by kernel_rfl
def EB:a8 aO 66 4=some (4,1):=by kernel_rfl
def Ve:a8 aO 66 5=some (5,1):=by kernel_rfl
def HI:a8 aO 66 6=some (6,1):=by kernel_rfl
def EA:a8 aO 66 7=some (7,1):=by kernel_rfl
def Bz:a8 aO 66 8=some (8,1):=by kernel_rfl
def By:a8 aO 73 0=some (0,1):=by kernel_rfl
def HH:a8 aO 73 1=some (1,1):=by kernel_rfl
def Vd:a8 aO 86 0=some (0,1):=by kernel_rfl
def QU:a8 aO 86 1=some (1,2):=by kernel_rfl
def Bx:a8 aO 86 2=some (3,1):=by kernel_rfl
def tK:a8 aO 88 0=some (0,1):=by kernel_rfl
def QT:a8 aO 88 1=some (1,1):=by kernel_rfl
def QS:a8 aO 91 0=some (0,1):=by kernel_rfl
def QR:a8 aO 91 1=some (1,1):=by kernel_rfl
def xu:a8 aO 104 0=some (0,1):=by kernel_rfl
def At:a8 aO 104 1=some (1,1):=by kernel_rfl
def SC:a8 aO 104 2=some (2,1):=by kernel_rfl
def xr:a8 aO 104 3=some (3,1):=by kernel_rfl
def qg:a8 aO 106 0=some (0,1):=by kernel_rfl
def Ar:a8 aO 106 1=some (1,1):=by kernel_rfl
def Aq:a8 aO 106 2=some (2,1):=by kernel_rfl
def uW:a8 aO 106 3=some (3,1):=by kernel_rfl
def C3:a8 aO 106 4=some (4,4):=by kernel_rfl
def Nc:a8 aO 110 0=some (0,1):=by kernel_rfl
def ro:a8 aO 110 1=some (1,1):=by kernel_rfl
def C2:a8 aO 110 2=some (2,1):=by kernel_rfl
def Ap:a8 aO 113 0=some (0,1):=by kernel_rfl
def Nb:a8 aO 113 1=some (1,1):=by kernel_rfl
def HO:a8 aO 127 0=some (0,1):=by kernel_rfl
def mh:a8 aO 127 1=some (1,9):=by kernel_rfl
def fi:a8 aO 127 2=some (10,9):=by kernel_rfl
def Na:a8 aO 127 3=some (19,1):=by kernel_rfl
def HN:a8 aO 127 4=some (20,1):=by kernel_rfl
def M0:a8 aO 127 5=some (21,1):=by kernel_rfl
def te:a8 aO 127 6=some (22,1):=by kernel_rfl
def xq:a8 aO 127 7=some (23,1):=by kernel_rfl
def uV:a8 aO 127 8=some (24,1):=by kernel_rfl
def td:a8 aO 162 0=some (0,1):=by kernel_rfl
def MZ:a8 aO 162 1=some (1,1):=by kernel_rfl
def MY:a8 aO 162 2=some (2,1):=by kernel_rfl
def ta:a8 aO 162 3=some (3,4):=by kernel_rfl
def xp:a8 aO 162 4=some (7,1):=by kernel_rfl
def uU:a8 aO 162 5=some (8,1):=by kernel_rfl
def SB:a8 aO 226 0=some (0,1):=by kernel_rfl
def SA:a8 aO 226 1=some (1,1):=by kernel_rfl
def HM:a8 aO 300 0=some (0,1):=by kernel_rfl
def Ao:a8 aO 300 1=some (1,1):=by kernel_rfl
def WH:fQ aO 24=some [(0,1)]:=by kernel_rfl
def WF:fQ aO 31=some [(0,1),(1,1),(2,1)]:=by kernel_rfl
def OQ:fQ aO 38=some [(0,1),(1,1),(2,1),(3,1),(4,1)]:=by kernel_rfl
def YC:fQ aO 48=some [(0,1),(1,1)]:=by kernel_rfl
def WE:fQ aO 52=some [(0,1)]:=by kernel_rfl
def YB:fQ aO 55=some [(0,1),(1,1),(2,1),(3,2),(5,1),(6,1),(7,1),(8,1)]:=by kernel_rfl
def WD:fQ aO 57=some [(0,1),(1,1),(2,1)]:=by kernel_rfl
def La:fQ aO 62=some [(0,1)]:=by kernel_rfl
def YA:fQ aO 71=some [(0,1),(1,1)]:=by kernel_rfl
def Yz:fQ aO 73=some [(0,1),(1,1)]:=by kernel_rfl
def Yy:fQ aO 77=some [(0,1),(1,1)]:=by kernel_rfl
def Yx:fQ aO 88=some [(0,1),(1,1)]:=by kernel_rfl
def WC:fQ aO 91=some [(0,1),(1,1)]:=by kernel_rfl
def MU:fQ aO 104=some [(0,1),(1,1),(2,1),(3,1)]:=by kernel_rfl
def Gs:fQ aO 106=some [(0,1),(1,1),(2,1),(3,1),(4,4)]:=by kernel_rfl
def T8:fQ aO 110=some [(0,1),(1,1),(2,1)]:=by kernel_rfl
def QN:fQ aO 113=some [(0,1),(1,1)]:=by kernel_rfl
def WJ:fQ aO 127=some [(0,1),(1,9),(10,9),(19,1),(20,1),(21,1),(22,1),(23,1),(24,1)]:=by kernel_rfl
def WI:fQ aO 162=some [(0,1),(1,1),(2,1),(3,4),(7,1),(8,1)]:=by kernel_rfl
def WG:fQ aO 300=some [(0,1),(1,1)]:=by kernel_rfl
def cb9:aj aO 9=true:=by kernel_rfl
def Tw:aj aO 10=true:=by kernel_rfl
def Pe:aj aO 11=true:=by kernel_rfl
def Tv:aj aO 12=true:=by kernel_rfl
def Tt:aj aO 19=true:=by kernel_rfl
def Zf:aj aO 22=true:=by kernel_rfl
def Ze:aj aO 26=true:=by kernel_rfl
def Zd:aj aO 28=true:=by kernel_rfl
def Xk:aj aO 29=true:=by kernel_rfl
def Zc:aj aO 30=true:=by kernel_rfl
def Zb:aj aO 31=true:=by kernel_rfl
def Xj:aj aO 32=true:=by kernel_rfl
def Xi:aj aO 33=true:=by kernel_rfl
def Xh:aj aO 34=true:=by kernel_rfl
def Xg:aj aO 35=true:=by kernel_rfl
def Xf:aj aO 36=true:=by kernel_rfl
def JJ:aj aO 37=true:=by kernel_rfl
def Za:aj aO 38=true:=by kernel_rfl
def Y9:aj aO 39=true:=by kernel_rfl
def Y8:aj aO 40=true:=by kernel_rfl
def Y7:aj aO 41=true:=by kernel_rfl
def Y6:aj aO 42=true:=by kernel_rfl
def Y5:aj aO 43=true:=by kernel_rfl
def Y4:aj aO 44=true:=by kernel_rfl
def Ts:aj aO 59=true:=by kernel_rfl
def Y3:aj aO 60=true:=by kernel_rfl
def Y2:aj aO 61=true:=by kernel_rfl
def Y1:aj aO 62=true:=by kernel_rfl
def Y0:aj aO 63=true:=by kernel_rfl
def YZ:aj aO 65=true:=by kernel_rfl
def Xe:aj aO 76=true:=by kernel_rfl
def YY:aj aO 77=true:=by kernel_rfl
def YX:aj aO 78=true:=by kernel_rfl
def YW:aj aO 79=true:=by kernel_rfl
def YV:aj aO 80=true:=by kernel_rfl
def YU:aj aO 82=true:=by kernel_rfl
def YT:aj aO 83=true:=by kernel_rfl
def YS:aj aO 84=true:=by kernel_rfl
def YR:aj aO 85=true:=by kernel_rfl
def YQ:aj aO 86=true:=by kernel_rfl
def Xd:aj aO 87=true:=by kernel_rfl
def Xc:aj aO 88=true:=by kernel_rfl
def JI:aj aO 89=true:=by kernel_rfl
def YP:aj aO 90=true:=by kernel_rfl
def YO:aj aO 91=true:=by kernel_rfl
def YN:aj aO 92=true:=by kernel_rfl
def YM:aj aO 93=true:=by kernel_rfl
def YL:aj aO 94=true:=by kernel_rfl
def YK:aj aO 95=true:=by kernel_rfl
def YJ:aj aO 96=true:=by kernel_rfl
def YI:aj aO 97=true:=by kernel_rfl
def YH:aj aO 98=true:=by kernel_rfl
def Xb:aj aO 99=true:=by kernel_rfl
def Ul:aj aO 100=true:=by kernel_rfl
def X0:aj aO 114=true:=by kernel_rfl
def XZ:aj aO 115=true:=by kernel_rfl
def XY:aj aO 116=true:=by kernel_rfl
def XX:aj aO 117=true:=by kernel_rfl
def XW:aj aO 118=true:=by kernel_rfl
def Uk:aj aO 119=true:=by kernel_rfl
def XV:aj aO 120=true:=by kernel_rfl
def XU:aj aO 123=true:=by kernel_rfl
def XT:aj aO 124=true:=by kernel_rfl
def XS:aj aO 126=true:=by kernel_rfl
def XR:aj aO 127=true:=by kernel_rfl
def XQ:aj aO 128=true:=by kernel_rfl
def Uj:aj aO 129=true:=by kernel_rfl
def Ui:aj aO 130=true:=by kernel_rfl
def Uh:aj aO 131=true:=by kernel_rfl
def XP:aj aO 132=true:=by kernel_rfl
def XO:aj aO 133=true:=by kernel_rfl
def XN:aj aO 134=true:=by kernel_rfl
def XM:aj aO 135=true:=by kernel_rfl
def Ug:aj aO 136=true:=by kernel_rfl
def Rr:aj aO 137=true:=by kernel_rfl
def Nv:aj aO 138=true:=by kernel_rfl
def Uf:aj aO 139=true:=by kernel_rfl
def Rq:aj aO 140=true:=by kernel_rfl
def Ue:aj aO 141=true:=by kernel_rfl
def Ud:aj aO 142=true:=by kernel_rfl
def Ro:aj aO 143=true:=by kernel_rfl
def XL:aj aO 155=true:=by kernel_rfl
def XK:aj aO 162=true:=by kernel_rfl
def XJ:aj aO 163=true:=by kernel_rfl
def XI:aj aO 170=true:=by kernel_rfl
def XH:aj aO 171=true:=by kernel_rfl
def XG:aj aO 172=true:=by kernel_rfl
def XF:aj aO 173=true:=by kernel_rfl
def XE:aj aO 174=true:=by kernel_rfl
def Rn:aj aO 175=true:=by kernel_rfl
def XD:aj aO 176=true:=by kernel_rfl
def XC:aj aO 177=true:=by kernel_rfl
def Uc:aj aO 178=true:=by kernel_rfl
def XB:aj aO 179=true:=by kernel_rfl
def XA:aj aO 180=true:=by kernel_rfl
def Xz:aj aO 181=true:=by kernel_rfl
def Xy:aj aO 182=true:=by kernel_rfl
def Ub:aj aO 189=true:=by kernel_rfl
def Xx:aj aO 203=true:=by kernel_rfl
def Xw:aj aO 204=true:=by kernel_rfl
def Xv:aj aO 212=true:=by kernel_rfl
def Xu:aj aO 213=true:=by kernel_rfl
def Xt:aj aO 214=true:=by kernel_rfl
def Xs:aj aO 215=true:=by kernel_rfl
def Xr:aj aO 216=true:=by kernel_rfl
def Xq:aj aO 221=true:=by kernel_rfl
def Xp:aj aO 233=true:=by kernel_rfl
def Xo:aj aO 234=true:=by kernel_rfl
def Xn:aj aO 235=true:=by kernel_rfl
def Xm:aj aO 238=true:=by kernel_rfl
def Xl:aj aO 243=true:=by kernel_rfl
def Ye:ZV aO 3 (.int .i64 0):=(show(Tryz.prog.info? 3).bind (fun i=>i.zero)=some (.int .i64 0) by kernel_rfl)
def zv4:ZV aO 4 (.bool false):=(show(Tryz.prog.info? 4).bind (fun i=>i.zero)=some (.bool false) by kernel_rfl)
def V1:ZV aO 35 (.slice none 0 0):=(show(Tryz.prog.info? 35).bind (fun i=>i.zero)=some (.slice none 0 0) by kernel_rfl)
def YF:NK aO 80 (o8 (rI .i64) 2):=NK.of (by kernel_rfl) (jN (Tm (n:=1) C7 dC rfl rfl (tg (n:=0) vQ)) 18)
def WZ:ku aO 91 d8 2:=zk (n:=1) (fs:=[(9,0,false),(9,1,false)]) (by kernel_rfl) (by kernel_rfl) rfl (GN.cons oH rfl rfl Bw (jN (HX (n:=0) ik) 0) (GN.cons oH rfl rfl Bv (jN (HX (n:=0) ik) 0) GN.nil)) (fun x y=>by cases x;cases y;simp [Bool.decide_and])
def YE:NK aO 91 d8:=NK.of (by kernel_rfl) (jN WZ 18)
def Ra:ku aO 104 dF 2:=zk (n:=1) (fs:=[(3,0,false),(2,1,false),(102,2,false),(9,3,false)]) (by kernel_rfl) (by kernel_rfl) rfl (GN.cons dC rfl rfl uR (jN (tg (n:=0) vQ) 0) (GN.cons VW rfl rfl uQ (jN (tg (n:=0) Tryz.underlying2) 0) (GN.cons TW rfl rfl Lb (jN (tg (n:=0) Tryz.underlying102) 0) (GN.cons oH rfl rfl si (jN (HX (n:=0) ik) 0) GN.nil)))) (fun x y=>by cases x;cases y;simp [Bool.decide_and])
def Nr:NK aO 104 dF:=NK.of (by kernel_rfl) (jN Ra 18)
def VN:ku aO 106 bh 3:=zk (n:=2) (fs:=[(3,0,false),(3,1,false),(3,2,false),(3,3,false),(104,4,false)]) (by kernel_rfl) (by kernel_rfl) rfl (GN.cons dC rfl rfl jK (jN (tg (n:=0) vQ) 1) (GN.cons dC rfl rfl uT (jN (tg (n:=0) vQ) 1) (GN.cons dC rfl rfl uS (jN (tg (n:=0) vQ) 1) (GN.cons dC rfl rfl mL (jN (tg (n:=0) vQ) 1) (GN.cons qn rfl rfl sj (jN Ra 0) GN.nil))))) (fun x y=>by cases x;cases y;simp [Bool.decide_and])
def W0:NK aO 106 bh:=NK.of (by kernel_rfl) (jN VN 17)
def Ww:Pq aO 91 jc:=Yp (r:=d8) (mk:=fun p=>(⟨p.1,p.2⟩:ig)) Tryz.underlying91 rfl ik oH rfl rfl (fun p=>⟨[_],[_],rfl,rfl,rfl⟩) (fun p q h=>by obtain⟨p1,p2⟩:=p;obtain⟨q1,q2⟩:=q;simpa using h) YE
def Wy{S:SH}{cs:List Value}{y:ig}(h:d8.rc S cs y):cs=[dp y.Table,dp y.Name]:=by
 obtain⟨a,b,e,A,D⟩:=h
 rw [e,show a=_ from A,show b=_ from D]
 rfl
def upX:Go.Proofs.Builder.Extra aO mj:={sizeBuilder:=by kernel_rfl,liesBuilder:=by kernel_rfl,t5:=Tryz.underlying5,a5:=Tryz.isAgg5,z5:=Tryz.sizeOf5,v5:=Tryz.zeroValue5,infoByte:=by kernel_rfl,cellsByte:=by kernel_rfl,sizeByte:=by kernel_rfl,neB5:=by decide}

end Go.Proofs.YthbdkceckjihgaaGreatDoor

