/- cm of this claim: T. -/
import Derived.Test.YthbdkceckjihgaaGreatDoorBdD
import Derived.Test.YthbdkceckjihgaaGreatDoorProg
import Derived.Test.YthbdkceckjihgaaGreatDoorBdS
import Derived.Test.YthbdkceckjihgaaGreatDoorBdV4
import Derived.Shelf.Strings.CaseAny
import Derived.KernelRfl
set_option linter.all false
namespace Go.Proofs.YthbdkceckjihgaaGreatDoor
open Go
noncomputable abbrev aQ:=Tryz.prog
def f8:= @Tryz.underlying35
def hY:= @Tryz.underlying9
def pH:= @Tryz.underlying64
def ra:= @Tryz.underlying108
def qr:= @Tryz.underlying60
def sr:= @Tryz.underlying50
def sU:= @Tryz.underlying46
def sS:= @Tryz.underlying22
def uv:= @Tryz.underlying3
def wK:= @Tryz.underlying28
def zi:= @Tryz.underlying49
def A5:= @Tryz.underlying29
def BO:= @Tryz.underlying34
def BN:= @Tryz.underlying53
def BM:= @Tryz.underlying80
def Fs:= @Tryz.underlying63
def Az:= @Tryz.underlying280
def BW:= @Tryz.underlying164
def Eh:= @Tryz.underlying33
def GU:= @Tryz.underlying242
def GQ:= @Tryz.underlying59
def GP:= @Tryz.underlying36
def Sg:= @Tryz.underlying4

def mixed:Tryz.prog.follows .mixedOrders=true:=by kernel_rfl
def UI:TI aQ 2 1 8 false [.int .i64 0]:=⟨by kernel_rfl,by kernel_rfl⟩
def da:TI aQ 3 1 8 false [.int .i64 0]:=⟨by kernel_rfl,by kernel_rfl⟩
def KP:TI aQ 4 1 1 false [.bool false]:=⟨by kernel_rfl,by kernel_rfl⟩
def nR:TI aQ 9 1 16 false [.string ⟨#[]⟩]:=⟨by kernel_rfl,by kernel_rfl⟩
def zu:TI aQ 22 1 24 false [.slice none 0 0]:=⟨by kernel_rfl,by kernel_rfl⟩
def pn:TI aQ 24 1 24 true [.slice none 0 0]:=⟨by kernel_rfl,by kernel_rfl⟩
def Hb:TI aQ 28 1 24 false [.slice none 0 0]:=⟨by kernel_rfl,by kernel_rfl⟩
def Ha:TI aQ 29 1 24 false [.slice none 0 0]:=⟨by kernel_rfl,by kernel_rfl⟩
def sC:TI aQ 31 3 56 true [.slice none 0 0,.slice none 0 0,.int .i64 0]:=⟨by kernel_rfl,by kernel_rfl⟩
def N1:TI aQ 33 1 24 false [.slice none 0 0]:=⟨by kernel_rfl,by kernel_rfl⟩
def N0:TI aQ 34 1 24 false [.slice none 0 0]:=⟨by kernel_rfl,by kernel_rfl⟩
def iC:TI aQ 35 1 24 false [.slice none 0 0]:=⟨by kernel_rfl,by kernel_rfl⟩
def Qs:TI aQ 36 1 24 false [.slice none 0 0]:=⟨by kernel_rfl,by kernel_rfl⟩
def oA:TI aQ 38 5 104 true [.slice none 0 0,.slice none 0 0,.slice none 0 0,.slice none 0 0,.int .i64 0]:=⟨by kernel_rfl,by kernel_rfl⟩
def DY:TI aQ 46 1 24 false [.slice none 0 0]:=⟨by kernel_rfl,by kernel_rfl⟩
def Mg:TI aQ 48 2 32 true [.string ⟨#[]⟩,.string ⟨#[]⟩]:=⟨by kernel_rfl,by kernel_rfl⟩
def G9:TI aQ 49 1 24 false [.slice none 0 0]:=⟨by kernel_rfl,by kernel_rfl⟩
def zt:TI aQ 50 1 24 false [.slice none 0 0]:=⟨by kernel_rfl,by kernel_rfl⟩
def lr:TI aQ 52 1 24 true [.slice none 0 0]:=⟨by kernel_rfl,by kernel_rfl⟩
def G8:TI aQ 53 1 24 false [.slice none 0 0]:=⟨by kernel_rfl,by kernel_rfl⟩
def sB:TI aQ 55 9 160 true [.bool false,.bool false,.slice none 0 0,.string ⟨#[]⟩,.string ⟨#[]⟩,.slice none 0 0,.slice none 0 0,.slice none 0 0,.slice none 0 0]:=⟨by kernel_rfl,by kernel_rfl⟩
def Bd:TI aQ 57 3 32 true [.string ⟨#[]⟩,.int .i64 0,.bool false]:=⟨by kernel_rfl,by kernel_rfl⟩
def Qr:TI aQ 59 1 24 false [.slice none 0 0]:=⟨by kernel_rfl,by kernel_rfl⟩
def DX:TI aQ 60 1 24 false [.slice none 0 0]:=⟨by kernel_rfl,by kernel_rfl⟩
def ci:TI aQ 62 1 24 true [.slice none 0 0]:=⟨by kernel_rfl,by kernel_rfl⟩
def I4:TI aQ 63 1 24 false [.slice none 0 0]:=⟨by kernel_rfl,by kernel_rfl⟩
def G7:TI aQ 64 1 24 false [.slice none 0 0]:=⟨by kernel_rfl,by kernel_rfl⟩
def I3:TI aQ 66 9 176 true [.slice none 0 0,.slice none 0 0,.slice none 0 0,.slice none 0 0,.bool false,.bool false,.slice none 0 0,.slice none 0 0,.slice none 0 0]:=⟨by kernel_rfl,by kernel_rfl⟩
def Mf:TI aQ 71 2 32 true [.bool false,.slice none 0 0]:=⟨by kernel_rfl,by kernel_rfl⟩
def Bc:TI aQ 73 2 32 true [.int .i64 0,.slice none 0 0]:=⟨by kernel_rfl,by kernel_rfl⟩
def Me:TI aQ 77 2 16 true [.int .i64 0,.bool false]:=⟨by kernel_rfl,by kernel_rfl⟩
def FI:TI aQ 80 2 16 true (List.replicate 2 (.int .i64 0)):=⟨by kernel_rfl,by kernel_rfl⟩
def yb:TI aQ 86 4 64 true [.bool false,.string ⟨#[]⟩,.string ⟨#[]⟩,.slice none 0 0]:=⟨by kernel_rfl,by kernel_rfl⟩
def pY:TI aQ 88 2 40 true [.slice none 0 0,.string ⟨#[]⟩]:=⟨by kernel_rfl,by kernel_rfl⟩
def zr:TI aQ 91 2 32 true [.string ⟨#[]⟩,.string ⟨#[]⟩]:=⟨by kernel_rfl,by kernel_rfl⟩
def So:TI aQ 102 1 8 false [.int .u64 0]:=⟨by kernel_rfl,by kernel_rfl⟩
def po:TI aQ 104 4 40 true [.int .i64 0,.int .i64 0,.int .u64 0,.string ⟨#[]⟩]:=⟨by kernel_rfl,by kernel_rfl⟩
def iD:TI aQ 106 8 72 true [.int .i64 0,.int .i64 0,.int .i64 0,.int .i64 0,.int .i64 0,.int .i64 0,.int .u64 0,.string ⟨#[]⟩]:=⟨by kernel_rfl,by kernel_rfl⟩
def wq:TI aQ 108 1 24 false [.slice none 0 0]:=⟨by kernel_rfl,by kernel_rfl⟩
def lL:TI aQ 110 3 64 true [.string ⟨#[]⟩,.slice none 0 0,.slice none 0 0]:=⟨by kernel_rfl,by kernel_rfl⟩
def kg:TI aQ 113 2 24 true [.string ⟨#[]⟩,.int .i64 0]:=⟨by kernel_rfl,by kernel_rfl⟩
def He:TI aQ 122 1 8 false [.pointer none]:=⟨by kernel_rfl,by kernel_rfl⟩
def Sn:TI aQ 123 1 8 false [.map none]:=⟨by kernel_rfl,by kernel_rfl⟩
def Hd:TI aQ 124 1 8 false [.map none]:=⟨by kernel_rfl,by kernel_rfl⟩
def Sm:TI aQ 125 1 8 false [.map none]:=⟨by kernel_rfl,by kernel_rfl⟩
def Va:TI aQ 127 25 440 true [.slice none 0 0,.bool false,.bool false,.slice none 0 0,.string ⟨#[]⟩,.string ⟨#[]⟩,.slice none 0 0,.slice none 0 0,.slice none 0 0,.slice none 0 0,.slice none 0 0,.slice none 0 0,.slice none 0 0,.slice none 0 0,.bool false,.bool false,.slice none 0 0,.slice none 0 0,.slice none 0 0,.map none,.map none,.map none,.slice none 0 0,.slice none 0 0,.int .i64 0]:=⟨by kernel_rfl,by kernel_rfl⟩
def Sl:TI aQ 128 1 8 false [.nilFunc]:=⟨by kernel_rfl,by kernel_rfl⟩
def oB:TI aQ 162 9 96 true [.int .i64 0,.int .i64 0,.int .i64 0,.int .i64 0,.int .i64 0,.int .u64 0,.string ⟨#[]⟩,.string ⟨#[]⟩,.string ⟨#[]⟩]:=⟨by kernel_rfl,by kernel_rfl⟩
def Er:TI aQ 164 1 8 false [.map none]:=⟨by kernel_rfl,by kernel_rfl⟩
def U9:TI aQ 176 1 8 false [.nilFunc]:=⟨by kernel_rfl,by kernel_rfl⟩
def U8:TI aQ 179 6 48 true (List.replicate 6 (.nilFunc)):=⟨by kernel_rfl,by kernel_rfl⟩
def U7:TI aQ 200 1 8 false [.nilFunc]:=⟨by kernel_rfl,by kernel_rfl⟩
def U6:TI aQ 209 2 48 true (List.replicate 2 (.slice none 0 0)):=⟨by kernel_rfl,by kernel_rfl⟩
def Hc:TI aQ 211 1 8 false [.nilFunc]:=⟨by kernel_rfl,by kernel_rfl⟩
def N2:TI aQ 226 2 24 true [.string ⟨#[]⟩,.int .i64 0]:=⟨by kernel_rfl,by kernel_rfl⟩
def U5:TI aQ 227 6 72 true [.string ⟨#[]⟩,.int .i64 0,.string ⟨#[]⟩,.int .i64 0,.string ⟨#[]⟩,.int .i64 0]:=⟨by kernel_rfl,by kernel_rfl⟩
def KS:TI aQ 247 1 8 false [.nilFunc]:=⟨by kernel_rfl,by kernel_rfl⟩
def KR:TI aQ 248 1 8 false [.nilFunc]:=⟨by kernel_rfl,by kernel_rfl⟩
def wp:TI aQ 300 2 16 true [.int .i64 0,.int .i64 0]:=⟨by kernel_rfl,by kernel_rfl⟩
def pR:aT aQ 24 0=some (0,1):=by kernel_rfl
def u9:aT aQ 31 0=some (0,1):=by kernel_rfl
def xq:aT aQ 31 1=some (1,1):=by kernel_rfl
def Gj:aT aQ 31 2=some (2,1):=by kernel_rfl
def Db:aT aQ 38 0=some (0,1):=by kernel_rfl
def Da:aT aQ 38 1=some (1,1):=by kernel_rfl
def xp:aT aQ 38 2=some (2,1):=by kernel_rfl
def Gi:aT aQ 38 3=some (3,1):=by kernel_rfl
def TT:aT aQ 38 4=some (4,1):=by kernel_rfl
def JR:aT aQ 48 0=some (0,1):=by kernel_rfl
def JQ:aT aQ 48 1=some (1,1):=by kernel_rfl
def oS:aT aQ 52 0=some (0,1):=by kernel_rfl
def TR:aT aQ 55 0=some (0,1):=by kernel_rfl
def Gh:aT aQ 55 1=some (1,1):=by kernel_rfl
def sj:aT aQ 55 2=some (2,1):=by kernel_rfl
def Pc:aT aQ 55 3=some (3,2):=by kernel_rfl
def xo:aT aQ 55 4=some (5,1):=by kernel_rfl
def C9:aT aQ 55 5=some (6,1):=by kernel_rfl
def Ac:aT aQ 55 6=some (7,1):=by kernel_rfl
def Ab:aT aQ 55 7=some (8,1):=by kernel_rfl
def C8:aT aQ 57 0=some (0,1):=by kernel_rfl
def C7:aT aQ 57 1=some (1,1):=by kernel_rfl
def TQ:aT aQ 57 2=some (2,1):=by kernel_rfl
def si:aT aQ 62 0=some (0,1):=by kernel_rfl
def Aa:aT aQ 66 0=some (0,1):=by kernel_rfl
def Gg:aT aQ 66 1=some (1,1):=by kernel_rfl
def Pb:aT aQ 66 2=some (2,1):=by kernel_rfl
def JP:aT aQ 66 3=some (3,1):=by kernel_rfl
def z8:aT aQ 66 4=some (4,1):=by kernel_rfl
def TP:aT aQ 66 5=some (5,1):=by kernel_rfl
def z7:aT aQ 66 6=some (6,1):=by kernel_rfl
def xn:aT aQ 66 7=some (7,1):=by kernel_rfl
def u7:aT aQ 66 8=some (8,1):=by kernel_rfl
def Pa:aT aQ 71 1=some (1,1):=by kernel_rfl
def tA:aT aQ 73 0=some (0,1):=by kernel_rfl
def C6:aT aQ 73 1=some (1,1):=by kernel_rfl
def O9:aT aQ 77 0=some (0,1):=by kernel_rfl
def TO:aT aQ 86 0=some (0,1):=by kernel_rfl
def O8:aT aQ 86 1=some (1,2):=by kernel_rfl
def Ge:aT aQ 86 2=some (3,1):=by kernel_rfl
def u6:aT aQ 88 0=some (0,1):=by kernel_rfl
def O7:aT aQ 88 1=some (1,1):=by kernel_rfl
def O6:aT aQ 91 0=some (0,1):=by kernel_rfl
def O5:aT aQ 91 1=some (1,1):=by kernel_rfl
def vP:aT aQ 104 0=some (0,1):=by kernel_rfl
def yO:aT aQ 104 1=some (1,1):=by kernel_rfl
def Q0:aT aQ 104 2=some (2,1):=by kernel_rfl
def vO:aT aQ 104 3=some (3,1):=by kernel_rfl
def pe:aT aQ 106 0=some (0,1):=by kernel_rfl
def yN:aT aQ 106 1=some (1,1):=by kernel_rfl
def yM:aT aQ 106 2=some (2,1):=by kernel_rfl
def tF:aT aQ 106 3=some (3,1):=by kernel_rfl
def BH:aT aQ 106 4=some (4,4):=by kernel_rfl
def Lu:aT aQ 110 0=some (0,1):=by kernel_rfl
def pd:aT aQ 110 1=some (1,1):=by kernel_rfl
def BG:aT aQ 110 2=some (2,1):=by kernel_rfl
def yL:aT aQ 113 0=some (0,1):=by kernel_rfl
def Gn:aT aQ 113 1=some (1,1):=by kernel_rfl
def Gm:aT aQ 127 0=some (0,1):=by kernel_rfl
def lQ:aT aQ 127 1=some (1,9):=by kernel_rfl
def fa:aT aQ 127 2=some (10,9):=by kernel_rfl
def Lt:aT aQ 127 3=some (19,1):=by kernel_rfl
def Gl:aT aQ 127 4=some (20,1):=by kernel_rfl
def Ls:aT aQ 127 5=some (21,1):=by kernel_rfl
def rE:aT aQ 127 6=some (22,1):=by kernel_rfl
def vN:aT aQ 127 7=some (23,1):=by kernel_rfl
def tE:aT aQ 127 8=some (24,1):=by kernel_rfl
def rD:aT aQ 162 0=some (0,1):=by kernel_rfl
def Lr:aT aQ 162 1=some (1,1):=by kernel_rfl
def Lq:aT aQ 162 2=some (2,1):=by kernel_rfl
def rC:aT aQ 162 3=some (3,4):=by kernel_rfl
def vM:aT aQ 162 4=some (7,1):=by kernel_rfl
def tB:aT aQ 162 5=some (8,1):=by kernel_rfl
def QZ:aT aQ 226 0=some (0,1):=by kernel_rfl
def QY:aT aQ 226 1=some (1,1):=by kernel_rfl
def Gk:aT aQ 300 0=some (0,1):=by kernel_rfl
def yK:aT aQ 300 1=some (1,1):=by kernel_rfl
def Vu:fF aQ 24=some [(0,1)]:=by kernel_rfl
def Xn:fF aQ 31=some [(0,1),(1,1),(2,1)]:=by kernel_rfl
def MZ:fF aQ 38=some [(0,1),(1,1),(2,1),(3,1),(4,1)]:=by kernel_rfl
def Xm:fF aQ 48=some [(0,1),(1,1)]:=by kernel_rfl
def Vs:fF aQ 52=some [(0,1)]:=by kernel_rfl
def Xl:fF aQ 55=some [(0,1),(1,1),(2,1),(3,2),(5,1),(6,1),(7,1),(8,1)]:=by kernel_rfl
def Xk:fF aQ 57=some [(0,1),(1,1),(2,1)]:=by kernel_rfl
def JK:fF aQ 62=some [(0,1)]:=by kernel_rfl
def Xj:fF aQ 71=some [(0,1),(1,1)]:=by kernel_rfl
def Xi:fF aQ 73=some [(0,1),(1,1)]:=by kernel_rfl
def Xh:fF aQ 77=some [(0,1),(1,1)]:=by kernel_rfl
def Xg:fF aQ 88=some [(0,1),(1,1)]:=by kernel_rfl
def Vr:fF aQ 91=some [(0,1),(1,1)]:=by kernel_rfl
def Lm:fF aQ 104=some [(0,1),(1,1),(2,1),(3,1)]:=by kernel_rfl
def EZ:fF aQ 106=some [(0,1),(1,1),(2,1),(3,1),(4,4)]:=by kernel_rfl
def Sz:fF aQ 110=some [(0,1),(1,1),(2,1)]:=by kernel_rfl
def OY:fF aQ 113=some [(0,1),(1,1)]:=by kernel_rfl
def Vw:fF aQ 127=some [(0,1),(1,9),(10,9),(19,1),(20,1),(21,1),(22,1),(23,1),(24,1)]:=by kernel_rfl
def Vv:fF aQ 162=some [(0,1),(1,1),(2,1),(3,4),(7,1),(8,1)]:=by kernel_rfl
def Vt:fF aQ 300=some [(0,1),(1,1)]:=by kernel_rfl
def cb9:aj aQ 9=true:=by kernel_rfl
def R2:aj aQ 10=true:=by kernel_rfl
def R1:aj aQ 11=true:=by kernel_rfl
def UA:aj aQ 12=true:=by kernel_rfl
def Wi:aj aQ 17=true:=by kernel_rfl
def Uz:aj aQ 18=true:=by kernel_rfl
def Kd:aj aQ 19=true:=by kernel_rfl
def X7:aj aQ 22=true:=by kernel_rfl
def X6:aj aQ 26=true:=by kernel_rfl
def X5:aj aQ 28=true:=by kernel_rfl
def VT:aj aQ 29=true:=by kernel_rfl
def X4:aj aQ 30=true:=by kernel_rfl
def X3:aj aQ 31=true:=by kernel_rfl
def X2:aj aQ 32=true:=by kernel_rfl
def X1:aj aQ 33=true:=by kernel_rfl
def X0:aj aQ 34=true:=by kernel_rfl
def XZ:aj aQ 35=true:=by kernel_rfl
def XY:aj aQ 36=true:=by kernel_rfl
def R0:aj aQ 37=true:=by kernel_rfl
def VS:aj aQ 38=true:=by kernel_rfl
def XX:aj aQ 39=true:=by kernel_rfl
def XW:aj aQ 40=true:=by kernel_rfl
def XV:aj aQ 41=true:=by kernel_rfl
def XU:aj aQ 42=true:=by kernel_rfl
def XT:aj aQ 43=true:=by kernel_rfl
def XS:aj aQ 44=true:=by kernel_rfl
def XR:aj aQ 56=true:=by kernel_rfl
def XQ:aj aQ 57=true:=by kernel_rfl
def XP:aj aQ 58=true:=by kernel_rfl
def RZ:aj aQ 59=true:=by kernel_rfl
def XO:aj aQ 60=true:=by kernel_rfl
def XN:aj aQ 61=true:=by kernel_rfl
def XM:aj aQ 62=true:=by kernel_rfl
def XL:aj aQ 63=true:=by kernel_rfl
def XK:aj aQ 65=true:=by kernel_rfl
def VR:aj aQ 76=true:=by kernel_rfl
def XJ:aj aQ 77=true:=by kernel_rfl
def XI:aj aQ 78=true:=by kernel_rfl
def XH:aj aQ 79=true:=by kernel_rfl
def XG:aj aQ 80=true:=by kernel_rfl
def XF:aj aQ 82=true:=by kernel_rfl
def XE:aj aQ 83=true:=by kernel_rfl
def XD:aj aQ 84=true:=by kernel_rfl
def XC:aj aQ 85=true:=by kernel_rfl
def XB:aj aQ 86=true:=by kernel_rfl
def VQ:aj aQ 87=true:=by kernel_rfl
def VP:aj aQ 88=true:=by kernel_rfl
def Iv:aj aQ 89=true:=by kernel_rfl
def XA:aj aQ 90=true:=by kernel_rfl
def Xz:aj aQ 91=true:=by kernel_rfl
def Xy:aj aQ 92=true:=by kernel_rfl
def Xx:aj aQ 93=true:=by kernel_rfl
def Xw:aj aQ 94=true:=by kernel_rfl
def Xv:aj aQ 95=true:=by kernel_rfl
def Xu:aj aQ 96=true:=by kernel_rfl
def Xt:aj aQ 97=true:=by kernel_rfl
def Xs:aj aQ 98=true:=by kernel_rfl
def VO:aj aQ 99=true:=by kernel_rfl
def SN:aj aQ 100=true:=by kernel_rfl
def WB:aj aQ 113=true:=by kernel_rfl
def WA:aj aQ 114=true:=by kernel_rfl
def Wz:aj aQ 115=true:=by kernel_rfl
def Wy:aj aQ 116=true:=by kernel_rfl
def Wx:aj aQ 117=true:=by kernel_rfl
def Ww:aj aQ 118=true:=by kernel_rfl
def SM:aj aQ 119=true:=by kernel_rfl
def Wv:aj aQ 120=true:=by kernel_rfl
def Wu:aj aQ 123=true:=by kernel_rfl
def Wt:aj aQ 124=true:=by kernel_rfl
def Ws:aj aQ 126=true:=by kernel_rfl
def Wr:aj aQ 127=true:=by kernel_rfl
def Wq:aj aQ 128=true:=by kernel_rfl
def SL:aj aQ 129=true:=by kernel_rfl
def SK:aj aQ 130=true:=by kernel_rfl
def SJ:aj aQ 131=true:=by kernel_rfl
def Wp:aj aQ 132=true:=by kernel_rfl
def Wo:aj aQ 133=true:=by kernel_rfl
def Wn:aj aQ 134=true:=by kernel_rfl
def Wm:aj aQ 135=true:=by kernel_rfl
def SI:aj aQ 136=true:=by kernel_rfl
def PG:aj aQ 137=true:=by kernel_rfl
def LJ:aj aQ 138=true:=by kernel_rfl
def SG:aj aQ 139=true:=by kernel_rfl
def PF:aj aQ 140=true:=by kernel_rfl
def SF:aj aQ 141=true:=by kernel_rfl
def SE:aj aQ 142=true:=by kernel_rfl
def PE:aj aQ 143=true:=by kernel_rfl
def Wl:aj aQ 155=true:=by kernel_rfl
def Wk:aj aQ 162=true:=by kernel_rfl
def Wj:aj aQ 163=true:=by kernel_rfl
def Wh:aj aQ 170=true:=by kernel_rfl
def Wg:aj aQ 171=true:=by kernel_rfl
def Wf:aj aQ 172=true:=by kernel_rfl
def We:aj aQ 173=true:=by kernel_rfl
def Wd:aj aQ 174=true:=by kernel_rfl
def PD:aj aQ 175=true:=by kernel_rfl
def Wc:aj aQ 176=true:=by kernel_rfl
def Wb:aj aQ 177=true:=by kernel_rfl
def SD:aj aQ 178=true:=by kernel_rfl
def Wa:aj aQ 179=true:=by kernel_rfl
def V9:aj aQ 180=true:=by kernel_rfl
def V8:aj aQ 181=true:=by kernel_rfl
def V7:aj aQ 182=true:=by kernel_rfl
def SC:aj aQ 189=true:=by kernel_rfl
def V6:aj aQ 203=true:=by kernel_rfl
def V5:aj aQ 204=true:=by kernel_rfl
def V4:aj aQ 212=true:=by kernel_rfl
def V3:aj aQ 213=true:=by kernel_rfl
def V2:aj aQ 214=true:=by kernel_rfl
def V1:aj aQ 215=true:=by kernel_rfl
def V0:aj aQ 216=true:=by kernel_rfl
def VZ:aj aQ 221=true:=by kernel_rfl
def VY:aj aQ 233=true:=by kernel_rfl
def VX:aj aQ 234=true:=by kernel_rfl
def VW:aj aQ 235=true:=by kernel_rfl
def VV:aj aQ 238=true:=by kernel_rfl
def VU:aj aQ 243=true:=by kernel_rfl
def WP:ZV aQ 3 (.int .i64 0):=(show(Tryz.prog.info? 3).bind (fun i=>i.zero)=some (.int .i64 0) by kernel_rfl)
def zv4:ZV aQ 4 (.bool false):=(show(Tryz.prog.info? 4).bind (fun i=>i.zero)=some (.bool false) by kernel_rfl)
def UN:ZV aQ 35 (.slice none 0 0):=(show(Tryz.prog.info? 35).bind (fun i=>i.zero)=some (.slice none 0 0) by kernel_rfl)
def Xq:LW aQ 80 (n8 (rI .i64) 2):=LW.of (by kernel_rfl) (jH (RS (n:=1) BM da rfl rfl (rG (n:=0) uv)) 18)
def VL:ki aQ 91 eH 2:=xv (n:=1) (fs:=[(9,0,false),(9,1,false)]) (by kernel_rfl) (by kernel_rfl) rfl (Fm.cons nR rfl rfl z2 (jH (Gx (n:=0) hY) 0) (Fm.cons nR rfl rfl z1 (jH (Gx (n:=0) hY) 0) Fm.nil)) (fun x y=>by cases x;cases y;simp [Bool.decide_and])
def Xp:LW aQ 91 eH:=LW.of (by kernel_rfl) (jH VL 18)
def Pp:ki aQ 104 dH 2:=xv (n:=1) (fs:=[(3,0,false),(2,1,false),(102,2,false),(9,3,false)]) (by kernel_rfl) (by kernel_rfl) rfl (Fm.cons da rfl rfl tp (jH (rG (n:=0) uv) 0) (Fm.cons UI rfl rfl tn (jH (rG (n:=0) Tryz.underlying2) 0) (Fm.cons So rfl rfl JL (jH (rG (n:=0) Tryz.underlying102) 0) (Fm.cons nR rfl rfl qN (jH (Gx (n:=0) hY) 0) Fm.nil)))) (fun x y=>by cases x;cases y;simp [Bool.decide_and])
def LD:LW aQ 104 dH:=LW.of (by kernel_rfl) (jH Pp 18)
def Ut:ki aQ 106 bh 3:=xv (n:=2) (fs:=[(3,0,false),(3,1,false),(3,2,false),(3,3,false),(104,4,false)]) (by kernel_rfl) (by kernel_rfl) rfl (Fm.cons da rfl rfl jE (jH (rG (n:=0) uv) 1) (Fm.cons da rfl rfl tv (jH (rG (n:=0) uv) 1) (Fm.cons da rfl rfl tu (jH (rG (n:=0) uv) 1) (Fm.cons da rfl rfl mq (jH (rG (n:=0) uv) 1) (Fm.cons po rfl rfl qP (jH Pp 0) Fm.nil))))) (fun x y=>by cases x;cases y;simp [Bool.decide_and])
def VM:LW aQ 106 bh:=LW.of (by kernel_rfl) (jH Ut 17)
def Vk:ND aQ 91 iX:=W0 (r:=eH) (mk:=fun p=>(⟨p.1,p.2⟩:iN)) Tryz.underlying91 rfl hY nR rfl rfl (fun p=>⟨[_],[_],rfl,rfl,rfl⟩) (fun p q h=>by obtain⟨p1,p2⟩:=p;obtain⟨q1,q2⟩:=q;simpa using h) Xp
def Vm{S:SH}{cs:List Value}{y:iN}(h:eH.rc S cs y):cs=[dn y.Table,dn y.Name]:=by
 obtain⟨a,b,e,A,V⟩:=h
 rw [e,show a=_ from A,show b=_ from V]
 rfl
def upX:Go.Proofs.Builder.Extra aQ lS:={sizeBuilder:=by kernel_rfl,liesBuilder:=by kernel_rfl,t5:=Tryz.underlying5,a5:=Tryz.isAgg5,z5:=Tryz.sizeOf5,v5:=Tryz.zeroValue5,infoByte:=by kernel_rfl,cellsByte:=by kernel_rfl,sizeByte:=by kernel_rfl,neB5:=by decide}

end Go.Proofs.YthbdkceckjihgaaGreatDoor

