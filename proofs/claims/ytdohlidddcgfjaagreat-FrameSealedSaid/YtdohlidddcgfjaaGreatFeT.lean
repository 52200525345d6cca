/- bO of this claim: T. -/
import Derived.Test.YtdohlidddcgfjaaGreatFeD
import Derived.Test.YtdohlidddcgfjaaGreatProg
import Derived.Test.YtdohlidddcgfjaaGreatFeS
import Derived.Test.YtdohlidddcgfjaaGreatFeV4
import Derived.KernelRfl
set_option linter.all false
namespace Go.Proofs.YtdohlidddcgfjaaGreat
open Go
noncomputable abbrev a8:=Tryz.prog
def fc:= @Tryz.underlying69
def hM:= @Tryz.underlying37
def kI:= @Tryz.underlying3
def q9:= @Tryz.underlying85
def tw:= @Tryz.underlying5
def tU:= @Tryz.underlying82
def vy:= @Tryz.underlying68
def xo:= @Tryz.underlying27
def yQ:= @Tryz.underlying26
def yP:= @Tryz.underlying22
def yO:= @Tryz.underlying87
def Ac:= @Tryz.underlying86
def Bv:= @Tryz.underlying169
def Bu:= @Tryz.underlying74
def DZ:= @Tryz.underlying133
def DX:= @Tryz.underlying102
def FM:= @Tryz.underlying152
def Cb:= @Tryz.underlying9
def Ca:= @Tryz.underlying186
def B9:= @Tryz.underlying209
def ED:= @Tryz.underlying25
def B7:= @Tryz.underlying2
def EC:= @Tryz.underlying207
def Lv:= @Tryz.underlying4

def mixed:Tryz.prog.follows .mixedOrders=true:=by kernel_rfl
def OX:TI a8 2 1 8 false [.int .i64 0]:=⟨by kernel_rfl,by kernel_rfl⟩
def bW:TI a8 3 1 8 false [.int .i64 0]:=⟨by kernel_rfl,by kernel_rfl⟩
def yM:TI a8 4 1 1 false [.bool false]:=⟨by kernel_rfl,by kernel_rfl⟩
def rZ:TI a8 5 1 1 false [.int .u8 0]:=⟨by kernel_rfl,by kernel_rfl⟩
def V0:TI a8 9 1 16 false [.string ⟨#[]⟩]:=⟨by kernel_rfl,by kernel_rfl⟩
def JO:TI a8 22 1 24 false [.slice none 0 0]:=⟨by kernel_rfl,by kernel_rfl⟩
def Co:TI a8 24 1 24 true [.slice none 0 0]:=⟨by kernel_rfl,by kernel_rfl⟩
def p7:TI a8 25 1 4 false [.int .u32 0]:=⟨by kernel_rfl,by kernel_rfl⟩
def oE:TI a8 26 1 8 false [.int .u64 0]:=⟨by kernel_rfl,by kernel_rfl⟩
def HF:TI a8 27 1 24 false [.slice none 0 0]:=⟨by kernel_rfl,by kernel_rfl⟩
def Ul:TI a8 29 3 40 true [.slice none 0 0,.bool false,.int .u64 0]:=⟨by kernel_rfl,by kernel_rfl⟩
def rn:TI a8 31 7 72 true [.int .i64 0,.int .u32 0,.int .u64 0,.int .u64 0,.slice none 0 0,.bool false,.int .u64 0]:=⟨by kernel_rfl,by kernel_rfl⟩
def xZ:TI a8 32 1 8 false [.int .i64 0]:=⟨by kernel_rfl,by kernel_rfl⟩
def iZ:TI a8 34 15 152 true [.int .i64 0,.int .i64 0,.int .i64 0,.int .i64 0,.int .i64 0,.int .i64 0,.slice none 0 0,.int .i64 0,.int .u32 0,.int .u64 0,.int .u64 0,.slice none 0 0,.bool false,.int .u64 0,.int .i64 0]:=⟨by kernel_rfl,by kernel_rfl⟩
def oS:TI a8 37 1 24 false [.slice none 0 0]:=⟨by kernel_rfl,by kernel_rfl⟩
def Zl:TI a8 60 1 24 true [.slice none 0 0]:=⟨by kernel_rfl,by kernel_rfl⟩
def Wh:TI a8 62 6 48 true (List.replicate 6 (.int .i64 0)):=⟨by kernel_rfl,by kernel_rfl⟩
def F2:TI a8 68 1 24 false [.slice none 0 0]:=⟨by kernel_rfl,by kernel_rfl⟩
def c0:TI a8 69 1 24 false [.slice none 0 0]:=⟨by kernel_rfl,by kernel_rfl⟩
def qh:TI a8 71 4 64 true [.slice none 0 0,.int .i64 0,.int .i64 0,.slice none 0 0]:=⟨by kernel_rfl,by kernel_rfl⟩
def Rn:TI a8 74 1 24 false [.slice none 0 0]:=⟨by kernel_rfl,by kernel_rfl⟩
def rm:TI a8 77 1 8 false [.pointer none]:=⟨by kernel_rfl,by kernel_rfl⟩
def Cn:TI a8 82 1 24 false [.slice none 0 0]:=⟨by kernel_rfl,by kernel_rfl⟩
def lL:TI a8 84 1 24 true [.slice none 0 0]:=⟨by kernel_rfl,by kernel_rfl⟩
def xq:TI a8 85 1 24 false [.slice none 0 0]:=⟨by kernel_rfl,by kernel_rfl⟩
def JN:TI a8 86 1 24 false [.slice none 0 0]:=⟨by kernel_rfl,by kernel_rfl⟩
def HE:TI a8 87 1 24 false [.slice none 0 0]:=⟨by kernel_rfl,by kernel_rfl⟩
def ge:TI a8 89 12 192 true [.int .i64 0,.int .i64 0,.int .i64 0,.int .i64 0,.slice none 0 0,.bool false,.slice none 0 0,.slice none 0 0,.slice none 0 0,.slice none 0 0,.slice none 0 0,.int .i64 0]:=⟨by kernel_rfl,by kernel_rfl⟩
def Cq:TI a8 102 1 24 false [.slice none 0 0]:=⟨by kernel_rfl,by kernel_rfl⟩
def db:TI a8 104 4 40 true [.int .i64 0,.int .i64 0,.int .u64 0,.string ⟨#[]⟩]:=⟨by kernel_rfl,by kernel_rfl⟩
def r0:TI a8 113 2 16 true [.int .i64 0,.bool false]:=⟨by kernel_rfl,by kernel_rfl⟩
def kT:TI a8 115 2 32 true [.int .i64 0,.slice none 0 0]:=⟨by kernel_rfl,by kernel_rfl⟩
def OY:TI a8 120 1 8 false [.nilFunc]:=⟨by kernel_rfl,by kernel_rfl⟩
def jM:TI a8 143 1 8 false [.pointer none]:=⟨by kernel_rfl,by kernel_rfl⟩
def Wl:TI a8 146 3 40 true [.pointer none,.slice none 0 0,.bool false]:=⟨by kernel_rfl,by kernel_rfl⟩
def EM:TI a8 152 256 1024 true (List.replicate 256 (.int .u32 0)):=⟨by kernel_rfl,by kernel_rfl⟩
def jL:TI a8 160 8 72 true [.int .i64 0,.int .i64 0,.int .i64 0,.int .i64 0,.int .i64 0,.int .i64 0,.int .u64 0,.string ⟨#[]⟩]:=⟨by kernel_rfl,by kernel_rfl⟩
def Cp:TI a8 166 1 8 false [.pointer none]:=⟨by kernel_rfl,by kernel_rfl⟩
def Wk:TI a8 168 18 336 true [.slice none 0 0,.slice none 0 0,.slice none 0 0,.int .i64 0,.int .i64 0,.int .i64 0,.int .i64 0,.slice none 0 0,.bool false,.slice none 0 0,.slice none 0 0,.slice none 0 0,.slice none 0 0,.slice none 0 0,.int .i64 0,.slice none 0 0,.slice none 0 0,.slice none 0 0]:=⟨by kernel_rfl,by kernel_rfl⟩
def Wj:TI a8 183 3 40 true [.int .i64 0,.int .i64 0,.slice none 0 0]:=⟨by kernel_rfl,by kernel_rfl⟩
def EL:TI a8 186 1 24 false [.slice none 0 0]:=⟨by kernel_rfl,by kernel_rfl⟩
def xB:TI a8 209 2 16 true (List.replicate 2 (.int .i64 0)):=⟨by kernel_rfl,by kernel_rfl⟩
def Wi:TI a8 250 3 24 true [.pointer none,.int .i64 0,.bool false]:=⟨by kernel_rfl,by kernel_rfl⟩
def yB:bF a8 24 0=some (0,1):=by kernel_rfl
def wD:bF a8 29 0=some (0,1):=by kernel_rfl
def u4:bF a8 29 1=some (1,1):=by kernel_rfl
def wC:bF a8 29 2=some (2,1):=by kernel_rfl
def Di:bF a8 31 0=some (0,1):=by kernel_rfl
def Gz:bF a8 31 1=some (1,1):=by kernel_rfl
def yA:bF a8 31 2=some (2,1):=by kernel_rfl
def yz:bF a8 31 3=some (3,1):=by kernel_rfl
def oy:bF a8 31 4=some (4,3):=by kernel_rfl
def u3:bF a8 34 0=some (0,1):=by kernel_rfl
def Dh:bF a8 34 1=some (1,1):=by kernel_rfl
def Dg:bF a8 34 2=some (2,1):=by kernel_rfl
def AE:bF a8 34 3=some (3,1):=by kernel_rfl
def wB:bF a8 34 4=some (4,1):=by kernel_rfl
def yy:bF a8 34 5=some (5,1):=by kernel_rfl
def AD:bF a8 34 6=some (6,1):=by kernel_rfl
def wA:bF a8 34 7=some (7,7):=by kernel_rfl
def wz:bF a8 34 8=some (14,1):=by kernel_rfl
def nL:bF a8 60 0=some (0,1):=by kernel_rfl
def AC:bF a8 71 0=some (0,1):=by kernel_rfl
def Df:bF a8 71 1=some (1,1):=by kernel_rfl
def De:bF a8 71 2=some (2,1):=by kernel_rfl
def Dd:bF a8 71 3=some (3,1):=by kernel_rfl
def ss:bF a8 84 0=some (0,1):=by kernel_rfl
def ln:bF a8 89 0=some (0,1):=by kernel_rfl
def rh:bF a8 89 1=some (1,1):=by kernel_rfl
def sr:bF a8 89 2=some (2,1):=by kernel_rfl
def uZ:bF a8 89 3=some (3,1):=by kernel_rfl
def qw:bF a8 89 4=some (4,1):=by kernel_rfl
def Dc:bF a8 89 5=some (5,1):=by kernel_rfl
def uY:bF a8 89 6=some (6,1):=by kernel_rfl
def pS:bF a8 89 7=some (7,1):=by kernel_rfl
def ox:bF a8 89 8=some (8,1):=by kernel_rfl
def yx:bF a8 89 9=some (9,1):=by kernel_rfl
def td:bF a8 89 10=some (10,1):=by kernel_rfl
def u0:bF a8 89 11=some (11,1):=by kernel_rfl
def pT:bF a8 104 0=some (0,1):=by kernel_rfl
def qN:bF a8 104 1=some (1,1):=by kernel_rfl
def GC:bF a8 104 2=some (2,1):=by kernel_rfl
def zF:bF a8 104 3=some (3,1):=by kernel_rfl
def GB:bF a8 113 0=some (0,1):=by kernel_rfl
def R6:bF a8 113 1=some (1,1):=by kernel_rfl
def oe:bF a8 115 0=some (0,1):=by kernel_rfl
def tg:bF a8 115 1=some (1,1):=by kernel_rfl
def lG:bF a8 146 0=some (0,1):=by kernel_rfl
def Mm:bF a8 146 1=some (1,1):=by kernel_rfl
def tf:bF a8 146 2=some (2,1):=by kernel_rfl
def lF:bF a8 160 0=some (0,1):=by kernel_rfl
def BU:bF a8 160 1=some (1,1):=by kernel_rfl
def BT:bF a8 160 2=some (2,1):=by kernel_rfl
def te:bF a8 160 3=some (3,1):=by kernel_rfl
def xf:bF a8 160 4=some (4,4):=by kernel_rfl
def GA:bF a8 168 0=some (0,1):=by kernel_rfl
def BS:bF a8 168 1=some (1,1):=by kernel_rfl
def rx:bF a8 168 2=some (2,1):=by kernel_rfl
def gH:bF a8 168 3=some (3,12):=by kernel_rfl
def jg:bF a8 168 4=some (15,1):=by kernel_rfl
def zE:bF a8 168 5=some (16,1):=by kernel_rfl
def fH:bF a8 168 6=some (17,1):=by kernel_rfl
def u6:bF a8 181 0=some (0,1):=by kernel_rfl
def u5:bF a8 181 1=some (1,1):=by kernel_rfl
def nc:bF a8 183 0=some (0,2):=by kernel_rfl
def BR:bF a8 183 1=some (2,1):=by kernel_rfl
def lb:bF a8 250 0=some (0,1):=by kernel_rfl
def Ml:bF a8 250 1=some (1,1):=by kernel_rfl
def xe:bF a8 250 2=some (2,1):=by kernel_rfl
def WP:iM a8 24=some [(0,1)]:=by kernel_rfl
def Zy:iM a8 29=some [(0,1),(1,1),(2,1)]:=by kernel_rfl
def UR:iM a8 31=some [(0,1),(1,1),(2,1),(3,1),(4,3)]:=by kernel_rfl
def IL:iM a8 34=some [(0,1),(1,1),(2,1),(3,1),(4,1),(5,1),(6,1),(7,7),(14,1)]:=by kernel_rfl
def Zx:iM a8 60=some [(0,1)]:=by kernel_rfl
def WN:iM a8 71=some [(0,1),(1,1),(2,1),(3,1)]:=by kernel_rfl
def Zw:iM a8 84=some [(0,1)]:=by kernel_rfl
def Zv:iM a8 89=some [(0,1),(1,1),(2,1),(3,1),(4,1),(5,1),(6,1),(7,1),(8,1),(9,1),(10,1),(11,1)]:=by kernel_rfl
def PT:iM a8 104=some [(0,1),(1,1),(2,1),(3,1)]:=by kernel_rfl
def WV:iM a8 113=some [(0,1),(1,1)]:=by kernel_rfl
def WU:iM a8 115=some [(0,1),(1,1)]:=by kernel_rfl
def WT:iM a8 146=some [(0,1),(1,1),(2,1)]:=by kernel_rfl
def WS:iM a8 160=some [(0,1),(1,1),(2,1),(3,1),(4,4)]:=by kernel_rfl
def WR:iM a8 168=some [(0,1),(1,1),(2,1),(3,12),(15,1),(16,1),(17,1)]:=by kernel_rfl
def WQ:iM a8 183=some [(0,2),(2,1)]:=by kernel_rfl
def WO:iM a8 250=some [(0,1),(1,1),(2,1)]:=by kernel_rfl
def aac:ak a8 10=true:=by kernel_rfl
def YI:ak a8 12=true:=by kernel_rfl
def SX:ak a8 14=true:=by kernel_rfl
def VU:ak a8 17=true:=by kernel_rfl
def aab:ak a8 25=true:=by kernel_rfl
def VT:ak a8 27=true:=by kernel_rfl
def Xt:ak a8 29=true:=by kernel_rfl
def aaa:ak a8 30=true:=by kernel_rfl
def Z9:ak a8 31=true:=by kernel_rfl
def Z8:ak a8 32=true:=by kernel_rfl
def Z7:ak a8 40=true:=by kernel_rfl
def Z6:ak a8 41=true:=by kernel_rfl
def Z5:ak a8 43=true:=by kernel_rfl
def Z4:ak a8 44=true:=by kernel_rfl
def Z3:ak a8 45=true:=by kernel_rfl
def Z2:ak a8 50=true:=by kernel_rfl
def Z1:ak a8 51=true:=by kernel_rfl
def Z0:ak a8 54=true:=by kernel_rfl
def Xs:ak a8 55=true:=by kernel_rfl
def ZZ:ak a8 56=true:=by kernel_rfl
def ZY:ak a8 57=true:=by kernel_rfl
def ZX:ak a8 58=true:=by kernel_rfl
def vE:ak a8 59=true:=by kernel_rfl
def ZW:ak a8 60=true:=by kernel_rfl
def SW:ak a8 61=true:=by kernel_rfl
def Xr:ak a8 62=true:=by kernel_rfl
def ZU:ak a8 63=true:=by kernel_rfl
def Xq:ak a8 64=true:=by kernel_rfl
def ZT:ak a8 65=true:=by kernel_rfl
def VS:ak a8 66=true:=by kernel_rfl
def ZS:ak a8 67=true:=by kernel_rfl
def ZR:ak a8 68=true:=by kernel_rfl
def VR:ak a8 69=true:=by kernel_rfl
def ZQ:ak a8 70=true:=by kernel_rfl
def ZP:ak a8 71=true:=by kernel_rfl
def ZO:ak a8 72=true:=by kernel_rfl
def ZN:ak a8 73=true:=by kernel_rfl
def ZM:ak a8 74=true:=by kernel_rfl
def ZL:ak a8 81=true:=by kernel_rfl
def ZK:ak a8 82=true:=by kernel_rfl
def VQ:ak a8 83=true:=by kernel_rfl
def Xp:ak a8 84=true:=by kernel_rfl
def ZJ:ak a8 85=true:=by kernel_rfl
def ZI:ak a8 86=true:=by kernel_rfl
def VP:ak a8 87=true:=by kernel_rfl
def ZH:ak a8 88=true:=by kernel_rfl
def ZG:ak a8 89=true:=by kernel_rfl
def VO:ak a8 90=true:=by kernel_rfl
def Xo:ak a8 97=true:=by kernel_rfl
def ZF:ak a8 98=true:=by kernel_rfl
def rA:ak a8 99=true:=by kernel_rfl
def YP:ak a8 100=true:=by kernel_rfl
def zN:ak a8 101=true:=by kernel_rfl
def Fz:ak a8 102=true:=by kernel_rfl
def TT:ak a8 105=true:=by kernel_rfl
def ME:ak a8 106=true:=by kernel_rfl
def YO:ak a8 112=true:=by kernel_rfl
def YN:ak a8 113=true:=by kernel_rfl
def YM:ak a8 114=true:=by kernel_rfl
def YL:ak a8 115=true:=by kernel_rfl
def Fy:ak a8 116=true:=by kernel_rfl
def TR:ak a8 117=true:=by kernel_rfl
def YK:ak a8 118=true:=by kernel_rfl
def YJ:ak a8 119=true:=by kernel_rfl
def YH:ak a8 126=true:=by kernel_rfl
def YG:ak a8 127=true:=by kernel_rfl
def QK:ak a8 128=true:=by kernel_rfl
def YF:ak a8 129=true:=by kernel_rfl
def MD:ak a8 130=true:=by kernel_rfl
def Fx:ak a8 136=true:=by kernel_rfl
def MC:ak a8 137=true:=by kernel_rfl
def YE:ak a8 138=true:=by kernel_rfl
def YD:ak a8 139=true:=by kernel_rfl
def YC:ak a8 140=true:=by kernel_rfl
def Dr:ak a8 141=true:=by kernel_rfl
def QJ:ak a8 144=true:=by kernel_rfl
def Dq:ak a8 145=true:=by kernel_rfl
def YB:ak a8 146=true:=by kernel_rfl
def TQ:ak a8 147=true:=by kernel_rfl
def TP:ak a8 148=true:=by kernel_rfl
def YA:ak a8 154=true:=by kernel_rfl
def Yz:ak a8 155=true:=by kernel_rfl
def Yy:ak a8 156=true:=by kernel_rfl
def Yx:ak a8 157=true:=by kernel_rfl
def Yw:ak a8 158=true:=by kernel_rfl
def TO:ak a8 159=true:=by kernel_rfl
def Yv:ak a8 160=true:=by kernel_rfl
def Yu:ak a8 163=true:=by kernel_rfl
def Yt:ak a8 164=true:=by kernel_rfl
def Ys:ak a8 165=true:=by kernel_rfl
def Yr:ak a8 166=true:=by kernel_rfl
def TN:ak a8 167=true:=by kernel_rfl
def Yq:ak a8 168=true:=by kernel_rfl
def Yp:ak a8 169=true:=by kernel_rfl
def Yo:ak a8 170=true:=by kernel_rfl
def Yn:ak a8 171=true:=by kernel_rfl
def Ym:ak a8 172=true:=by kernel_rfl
def Yl:ak a8 173=true:=by kernel_rfl
def Yk:ak a8 174=true:=by kernel_rfl
def Yj:ak a8 175=true:=by kernel_rfl
def Yi:ak a8 176=true:=by kernel_rfl
def TM:ak a8 177=true:=by kernel_rfl
def MB:ak a8 181=true:=by kernel_rfl
def Yh:ak a8 182=true:=by kernel_rfl
def MA:ak a8 183=true:=by kernel_rfl
def Yg:ak a8 184=true:=by kernel_rfl
def Yf:ak a8 185=true:=by kernel_rfl
def Ye:ak a8 186=true:=by kernel_rfl
def Yd:ak a8 187=true:=by kernel_rfl
def Yc:ak a8 188=true:=by kernel_rfl
def wJ:ak a8 189=true:=by kernel_rfl
def TL:ak a8 190=true:=by kernel_rfl
def Yb:ak a8 191=true:=by kernel_rfl
def Ya:ak a8 192=true:=by kernel_rfl
def TK:ak a8 193=true:=by kernel_rfl
def X9:ak a8 197=true:=by kernel_rfl
def X8:ak a8 198=true:=by kernel_rfl
def X7:ak a8 199=true:=by kernel_rfl
def X6:ak a8 200=true:=by kernel_rfl
def X5:ak a8 202=true:=by kernel_rfl
def X4:ak a8 203=true:=by kernel_rfl
def X3:ak a8 204=true:=by kernel_rfl
def TJ:ak a8 205=true:=by kernel_rfl
def Mz:ak a8 206=true:=by kernel_rfl
def X2:ak a8 207=true:=by kernel_rfl
def X1:ak a8 208=true:=by kernel_rfl
def X0:ak a8 209=true:=by kernel_rfl
def zL:ak a8 210=true:=by kernel_rfl
def TH:ak a8 214=true:=by kernel_rfl
def XZ:ak a8 215=true:=by kernel_rfl
def TG:ak a8 216=true:=by kernel_rfl
def XY:ak a8 217=true:=by kernel_rfl
def XX:ak a8 218=true:=by kernel_rfl
def XW:ak a8 219=true:=by kernel_rfl
def QI:ak a8 220=true:=by kernel_rfl
def TF:ak a8 221=true:=by kernel_rfl
def xR:ak a8 222=true:=by kernel_rfl
def XV:ak a8 223=true:=by kernel_rfl
def XU:ak a8 224=true:=by kernel_rfl
def XT:ak a8 225=true:=by kernel_rfl
def XS:ak a8 228=true:=by kernel_rfl
def XR:ak a8 229=true:=by kernel_rfl
def XQ:ak a8 230=true:=by kernel_rfl
def XP:ak a8 231=true:=by kernel_rfl
def XO:ak a8 232=true:=by kernel_rfl
def TE:ak a8 233=true:=by kernel_rfl
def XN:ak a8 234=true:=by kernel_rfl
def XM:ak a8 235=true:=by kernel_rfl
def XL:ak a8 236=true:=by kernel_rfl
def XK:ak a8 237=true:=by kernel_rfl
def XJ:ak a8 238=true:=by kernel_rfl
def XI:ak a8 239=true:=by kernel_rfl
def XH:ak a8 242=true:=by kernel_rfl
def My:ak a8 243=true:=by kernel_rfl
def XG:ak a8 244=true:=by kernel_rfl
def TD:ak a8 245=true:=by kernel_rfl
def XF:ak a8 248=true:=by kernel_rfl
def XE:ak a8 249=true:=by kernel_rfl
def XD:ak a8 250=true:=by kernel_rfl
def XC:ak a8 251=true:=by kernel_rfl
def XB:ak a8 252=true:=by kernel_rfl
def XA:ak a8 253=true:=by kernel_rfl
def TC:ak a8 254=true:=by kernel_rfl
def Xz:ak a8 257=true:=by kernel_rfl
def Xy:ak a8 258=true:=by kernel_rfl
def Xx:ak a8 259=true:=by kernel_rfl
def Xw:ak a8 260=true:=by kernel_rfl
def Xv:ak a8 264=true:=by kernel_rfl
def Xu:ak a8 265=true:=by kernel_rfl
def V8:ZV a8 132 (.nilFunc):=(show(Tryz.prog.info? 132).bind (fun i=>i.zero)=some (.nilFunc) by kernel_rfl)
def V7:ZV a8 172 (.nilFunc):=(show(Tryz.prog.info? 172).bind (fun i=>i.zero)=some (.nilFunc) by kernel_rfl)
def ZA:Jv a8 62 (mZ (rI .i64) 6):=Jv.of (by kernel_rfl) (jQ (Mu (n:=1) Tryz.underlying62 bW rfl rfl (qO (n:=0) kI)) 18)
def Qx:kH a8 104 bd 2:=yF (n:=1) (fs:=[(3,0,false),(2,1,false),(26,2,false),(9,3,false)]) (by kernel_rfl) (by kernel_rfl) rfl (FF.cons bW rfl rfl nF (jQ (qO (n:=0) kI) 0) (FF.cons OX rfl rfl qr (jQ (qO (n:=0) B7) 0) (FF.cons oE rfl rfl C7 (jQ (qO (n:=0) yQ) 0) (FF.cons V0 rfl rfl uV (jQ (SR (n:=0) Cb) 0) FF.nil)))) (fun x y=>by cases x;cases y;simp [Bool.decide_and])
def Mv:Jv a8 104 bd:=Jv.of (by kernel_rfl) (jQ Qx 18)
def VL:kH a8 113 ia 2:=yF (n:=1) (fs:=[(3,0,false),(4,1,false)]) (by kernel_rfl) (by kernel_rfl) rfl (FF.cons bW rfl rfl zw (jQ (qO (n:=0) kI) 0) (FF.cons yM rfl rfl IR (jQ (Qw (n:=0) Lv) 0) FF.nil)) (fun x y=>by cases x;cases y;simp [Bool.decide_and])
def Xj:Jv a8 113 ia:=Jv.of (by kernel_rfl) (jQ VL 18)
def VK:kH a8 160 bC 3:=yF (n:=2) (fs:=[(3,0,false),(3,1,false),(3,2,false),(3,3,false),(104,4,false)]) (by kernel_rfl) (by kernel_rfl) rfl (FF.cons bW rfl rfl fT (jQ (qO (n:=0) kI) 1) (FF.cons bW rfl rfl C9 (jQ (qO (n:=0) kI) 1) (FF.cons bW rfl rfl C8 (jQ (qO (n:=0) kI) 1) (FF.cons bW rfl rfl nJ (jQ (qO (n:=0) kI) 1) (FF.cons db rfl rfl qv (jQ Qx 0) FF.nil))))) (fun x y=>by cases x;cases y;simp [Bool.decide_and])
def Xi:Jv a8 160 bC:=Jv.of (by kernel_rfl) (jQ VK 17)
def Tz:Jv a8 209 (mZ (rI .i64) 2):=Jv.of (by kernel_rfl) (jQ (Mu (n:=1) B9 bW rfl rfl (qO (n:=0) kI)) 18)

end Go.Proofs.YtdohlidddcgfjaaGreat

