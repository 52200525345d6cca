/- bR of this claim: T. -/
import Derived.Test.YtdohlidddcgfjaaGreatFbD
import Derived.Test.YtdohlidddcgfjaaGreatProg
import Derived.Test.YtdohlidddcgfjaaGreatFbS
import Derived.Test.YtdohlidddcgfjaaGreatFbV4
import Derived.KernelRfl
set_option linter.all false
namespace Go.Proofs.YtdohlidddcgfjaaGreat
open Go
noncomputable abbrev aV:=Tryz.prog
def er:= @Tryz.underlying69
def gZ:= @Tryz.underlying37
def kz:= @Tryz.underlying3
def p7:= @Tryz.underlying85
def sE:= @Tryz.underlying82
def sD:= @Tryz.underlying5
def um:= @Tryz.underlying68
def wD:= @Tryz.underlying22
def xr:= @Tryz.underlying26
def xq:= @Tryz.underlying27
def xp:= @Tryz.underlying87
def yI:= @Tryz.underlying86
def zZ:= @Tryz.underlying169
def zY:= @Tryz.underlying74
def Co:= @Tryz.underlying133
def Cn:= @Tryz.underlying102
def D7:= @Tryz.underlying152
def AG:= @Tryz.underlying9
def AF:= @Tryz.underlying186
def AE:= @Tryz.underlying209
def CT:= @Tryz.underlying25
def AC:= @Tryz.underlying2
def Jd:= @Tryz.underlying4
def Fg:= @Tryz.underlying207

def mixed:Tryz.prog.follows .mixedOrders=true:=by kernel_rfl
def Mb:TI aV 2 1 8 false [.int .i64 0]:=⟨by kernel_rfl,by kernel_rfl⟩
def bS:TI aV 3 1 8 false [.int .i64 0]:=⟨by kernel_rfl,by kernel_rfl⟩
def yM:TI aV 4 1 1 false [.bool false]:=⟨by kernel_rfl,by kernel_rfl⟩
def rk:TI aV 5 1 1 false [.int .u8 0]:=⟨by kernel_rfl,by kernel_rfl⟩
def SS:TI aV 9 1 16 false [.string ⟨#[]⟩]:=⟨by kernel_rfl,by kernel_rfl⟩
def FF:TI aV 22 1 24 false [.slice none 0 0]:=⟨by kernel_rfl,by kernel_rfl⟩
def qa:TI aV 24 1 24 true [.slice none 0 0]:=⟨by kernel_rfl,by kernel_rfl⟩
def o3:TI aV 25 1 4 false [.int .u32 0]:=⟨by kernel_rfl,by kernel_rfl⟩
def oA:TI aV 26 1 8 false [.int .u64 0]:=⟨by kernel_rfl,by kernel_rfl⟩
def HB:TI aV 27 1 24 false [.slice none 0 0]:=⟨by kernel_rfl,by kernel_rfl⟩
def Q4:TI aV 29 3 40 true [.slice none 0 0,.bool false,.int .u64 0]:=⟨by kernel_rfl,by kernel_rfl⟩
def Ks:TI aV 31 7 72 true [.int .i64 0,.int .u32 0,.int .u64 0,.int .u64 0,.slice none 0 0,.bool false,.int .u64 0]:=⟨by kernel_rfl,by kernel_rfl⟩
def yN:TI aV 32 1 8 false [.int .i64 0]:=⟨by kernel_rfl,by kernel_rfl⟩
def v7:TI aV 34 15 152 true [.int .i64 0,.int .i64 0,.int .i64 0,.int .i64 0,.int .i64 0,.int .i64 0,.slice none 0 0,.int .i64 0,.int .u32 0,.int .u64 0,.int .u64 0,.slice none 0 0,.bool false,.int .u64 0,.int .i64 0]:=⟨by kernel_rfl,by kernel_rfl⟩
def ny:TI aV 37 1 24 false [.slice none 0 0]:=⟨by kernel_rfl,by kernel_rfl⟩
def Td:TI aV 60 1 24 true [.slice none 0 0]:=⟨by kernel_rfl,by kernel_rfl⟩
def Tc:TI aV 62 6 48 true (List.replicate 6 (.int .i64 0)):=⟨by kernel_rfl,by kernel_rfl⟩
def Ej:TI aV 68 1 24 false [.slice none 0 0]:=⟨by kernel_rfl,by kernel_rfl⟩
def cF:TI aV 69 1 24 false [.slice none 0 0]:=⟨by kernel_rfl,by kernel_rfl⟩
def pd:TI aV 71 4 64 true [.slice none 0 0,.int .i64 0,.int .i64 0,.slice none 0 0]:=⟨by kernel_rfl,by kernel_rfl⟩
def Oh:TI aV 74 1 24 false [.slice none 0 0]:=⟨by kernel_rfl,by kernel_rfl⟩
def ql:TI aV 77 1 8 false [.pointer none]:=⟨by kernel_rfl,by kernel_rfl⟩
def AS:TI aV 82 1 24 false [.slice none 0 0]:=⟨by kernel_rfl,by kernel_rfl⟩
def kX:TI aV 84 1 24 true [.slice none 0 0]:=⟨by kernel_rfl,by kernel_rfl⟩
def vY:TI aV 85 1 24 false [.slice none 0 0]:=⟨by kernel_rfl,by kernel_rfl⟩
def HA:TI aV 86 1 24 false [.slice none 0 0]:=⟨by kernel_rfl,by kernel_rfl⟩
def FE:TI aV 87 1 24 false [.slice none 0 0]:=⟨by kernel_rfl,by kernel_rfl⟩
def fG:TI aV 89 12 192 true [.int .i64 0,.int .i64 0,.int .i64 0,.int .i64 0,.slice none 0 0,.bool false,.slice none 0 0,.slice none 0 0,.slice none 0 0,.slice none 0 0,.slice none 0 0,.int .i64 0]:=⟨by kernel_rfl,by kernel_rfl⟩
def FG:TI aV 102 1 24 false [.slice none 0 0]:=⟨by kernel_rfl,by kernel_rfl⟩
def cO:TI aV 104 4 40 true [.int .i64 0,.int .i64 0,.int .u64 0,.string ⟨#[]⟩]:=⟨by kernel_rfl,by kernel_rfl⟩
def qR:TI aV 113 2 16 true [.int .i64 0,.bool false]:=⟨by kernel_rfl,by kernel_rfl⟩
def kc:TI aV 115 2 32 true [.int .i64 0,.slice none 0 0]:=⟨by kernel_rfl,by kernel_rfl⟩
def Mc:TI aV 120 1 8 false [.nilFunc]:=⟨by kernel_rfl,by kernel_rfl⟩
def nX:TI aV 143 1 8 false [.pointer none]:=⟨by kernel_rfl,by kernel_rfl⟩
def Th:TI aV 146 3 40 true [.pointer none,.slice none 0 0,.bool false]:=⟨by kernel_rfl,by kernel_rfl⟩
def C4:TI aV 152 256 1024 true (List.replicate 256 (.int .u32 0)):=⟨by kernel_rfl,by kernel_rfl⟩
def jd:TI aV 160 8 72 true [.int .i64 0,.int .i64 0,.int .i64 0,.int .i64 0,.int .i64 0,.int .i64 0,.int .u64 0,.string ⟨#[]⟩]:=⟨by kernel_rfl,by kernel_rfl⟩
def AU:TI aV 166 1 8 false [.pointer none]:=⟨by kernel_rfl,by kernel_rfl⟩
def Tg:TI aV 168 18 336 true [.slice none 0 0,.slice none 0 0,.slice none 0 0,.int .i64 0,.int .i64 0,.int .i64 0,.int .i64 0,.slice none 0 0,.bool false,.slice none 0 0,.slice none 0 0,.slice none 0 0,.slice none 0 0,.slice none 0 0,.int .i64 0,.slice none 0 0,.slice none 0 0,.slice none 0 0]:=⟨by kernel_rfl,by kernel_rfl⟩
def Tf:TI aV 183 3 40 true [.int .i64 0,.int .i64 0,.slice none 0 0]:=⟨by kernel_rfl,by kernel_rfl⟩
def C3:TI aV 186 1 24 false [.slice none 0 0]:=⟨by kernel_rfl,by kernel_rfl⟩
def wl:TI aV 209 2 16 true (List.replicate 2 (.int .i64 0)):=⟨by kernel_rfl,by kernel_rfl⟩
def Te:TI aV 250 3 24 true [.pointer none,.int .i64 0,.bool false]:=⟨by kernel_rfl,by kernel_rfl⟩
def vh:bv aV 24 0=some (0,1):=by kernel_rfl
def xd:bv aV 29 0=some (0,1):=by kernel_rfl
def xc:bv aV 29 1=some (1,1):=by kernel_rfl
def xb:bv aV 29 2=some (2,1):=by kernel_rfl
def BK:bv aV 31 0=some (0,1):=by kernel_rfl
def EK:bv aV 31 1=some (1,1):=by kernel_rfl
def xa:bv aV 31 2=some (2,1):=by kernel_rfl
def zf:bv aV 31 3=some (3,1):=by kernel_rfl
def qf:bv aV 31 4=some (4,3):=by kernel_rfl
def w9:bv aV 34 0=some (0,1):=by kernel_rfl
def BJ:bv aV 34 1=some (1,1):=by kernel_rfl
def BI:bv aV 34 2=some (2,1):=by kernel_rfl
def ze:bv aV 34 3=some (3,1):=by kernel_rfl
def zd:bv aV 34 4=some (4,1):=by kernel_rfl
def zc:bv aV 34 5=some (5,1):=by kernel_rfl
def BH:bv aV 34 6=some (6,1):=by kernel_rfl
def zb:bv aV 34 7=some (7,7):=by kernel_rfl
def za:bv aV 34 8=some (14,1):=by kernel_rfl
def mj:bv aV 60 0=some (0,1):=by kernel_rfl
def y9:bv aV 71 0=some (0,1):=by kernel_rfl
def BG:bv aV 71 1=some (1,1):=by kernel_rfl
def BF:bv aV 71 2=some (2,1):=by kernel_rfl
def BE:bv aV 71 3=some (3,1):=by kernel_rfl
def ra:bv aV 84 0=some (0,1):=by kernel_rfl
def kI:bv aV 89 0=some (0,1):=by kernel_rfl
def qe:bv aV 89 1=some (1,1):=by kernel_rfl
def q9:bv aV 89 2=some (2,1):=by kernel_rfl
def tN:bv aV 89 3=some (3,1):=by kernel_rfl
def pr:bv aV 89 4=some (4,1):=by kernel_rfl
def BD:bv aV 89 5=some (5,1):=by kernel_rfl
def tM:bv aV 89 6=some (6,1):=by kernel_rfl
def oT:bv aV 89 7=some (7,1):=by kernel_rfl
def nr:bv aV 89 8=some (8,1):=by kernel_rfl
def w8:bv aV 89 9=some (9,1):=by kernel_rfl
def rN:bv aV 89 10=some (10,1):=by kernel_rfl
def tP:bv aV 89 11=some (11,1):=by kernel_rfl
def oU:bv aV 104 0=some (0,1):=by kernel_rfl
def pL:bv aV 104 1=some (1,1):=by kernel_rfl
def EN:bv aV 104 2=some (2,1):=by kernel_rfl
def yj:bv aV 104 3=some (3,1):=by kernel_rfl
def EM:bv aV 113 0=some (0,1):=by kernel_rfl
def OY:bv aV 113 1=some (1,1):=by kernel_rfl
def nh:bv aV 115 0=some (0,1):=by kernel_rfl
def rR:bv aV 115 1=some (1,1):=by kernel_rfl
def rQ:bv aV 146 0=some (0,1):=by kernel_rfl
def JO:bv aV 146 1=some (1,1):=by kernel_rfl
def rP:bv aV 146 2=some (2,1):=by kernel_rfl
def kU:bv aV 160 0=some (0,1):=by kernel_rfl
def Am:bv aV 160 1=some (1,1):=by kernel_rfl
def Al:bv aV 160 2=some (2,1):=by kernel_rfl
def rO:bv aV 160 3=some (3,1):=by kernel_rfl
def vM:bv aV 160 4=some (4,4):=by kernel_rfl
def EL:bv aV 168 0=some (0,1):=by kernel_rfl
def Ak:bv aV 168 1=some (1,1):=by kernel_rfl
def qr:bv aV 168 2=some (2,1):=by kernel_rfl
def fX:bv aV 168 3=some (3,12):=by kernel_rfl
def iF:bv aV 168 4=some (15,1):=by kernel_rfl
def yi:bv aV 168 5=some (16,1):=by kernel_rfl
def eU:bv aV 168 6=some (17,1):=by kernel_rfl
def tR:bv aV 181 0=some (0,1):=by kernel_rfl
def tQ:bv aV 181 1=some (1,1):=by kernel_rfl
def mw:bv aV 183 0=some (0,2):=by kernel_rfl
def Aj:bv aV 183 1=some (2,1):=by kernel_rfl
def nI:bv aV 250 0=some (0,1):=by kernel_rfl
def OX:bv aV 250 1=some (1,1):=by kernel_rfl
def yh:bv aV 250 2=some (2,1):=by kernel_rfl
def RA:hY aV 24=some [(0,1)]:=by kernel_rfl
def Wd:hY aV 29=some [(0,1),(1,1),(2,1)]:=by kernel_rfl
def Wc:hY aV 31=some [(0,1),(1,1),(2,1),(3,1),(4,3)]:=by kernel_rfl
def MZ:hY aV 34=some [(0,1),(1,1),(2,1),(3,1),(4,1),(5,1),(6,1),(7,7),(14,1)]:=by kernel_rfl
def TP:hY aV 60=some [(0,1)]:=by kernel_rfl
def TO:hY aV 71=some [(0,1),(1,1),(2,1),(3,1)]:=by kernel_rfl
def Wb:hY aV 84=some [(0,1)]:=by kernel_rfl
def Wa:hY aV 89=some [(0,1),(1,1),(2,1),(3,1),(4,1),(5,1),(6,1),(7,1),(8,1),(9,1),(10,1),(11,1)]:=by kernel_rfl
def M0:hY aV 104=some [(0,1),(1,1),(2,1),(3,1)]:=by kernel_rfl
def TX:hY aV 113=some [(0,1),(1,1)]:=by kernel_rfl
def TW:hY aV 115=some [(0,1),(1,1)]:=by kernel_rfl
def TV:hY aV 146=some [(0,1),(1,1),(2,1)]:=by kernel_rfl
def TU:hY aV 160=some [(0,1),(1,1),(2,1),(3,1),(4,4)]:=by kernel_rfl
def TT:hY aV 168=some [(0,1),(1,1),(2,1),(3,12),(15,1),(16,1),(17,1)]:=by kernel_rfl
def TR:hY aV 183=some [(0,2),(2,1)]:=by kernel_rfl
def TQ:hY aV 250=some [(0,1),(1,1),(2,1)]:=by kernel_rfl
def WP:ak aV 10=true:=by kernel_rfl
def WO:ak aV 12=true:=by kernel_rfl
def PO:ak aV 14=true:=by kernel_rfl
def Vf:ak aV 17=true:=by kernel_rfl
def WN:ak aV 20=true:=by kernel_rfl
def WM:ak aV 22=true:=by kernel_rfl
def WL:ak aV 27=true:=by kernel_rfl
def WK:ak aV 29=true:=by kernel_rfl
def WJ:ak aV 30=true:=by kernel_rfl
def WI:ak aV 31=true:=by kernel_rfl
def WH:ak aV 32=true:=by kernel_rfl
def SN:ak aV 40=true:=by kernel_rfl
def Ul:ak aV 41=true:=by kernel_rfl
def WG:ak aV 43=true:=by kernel_rfl
def WF:ak aV 44=true:=by kernel_rfl
def WE:ak aV 45=true:=by kernel_rfl
def WD:ak aV 54=true:=by kernel_rfl
def WC:ak aV 55=true:=by kernel_rfl
def WB:ak aV 56=true:=by kernel_rfl
def WA:ak aV 57=true:=by kernel_rfl
def Wz:ak aV 58=true:=by kernel_rfl
def uu:ak aV 59=true:=by kernel_rfl
def Wy:ak aV 60=true:=by kernel_rfl
def PN:ak aV 61=true:=by kernel_rfl
def Uk:ak aV 62=true:=by kernel_rfl
def Wx:ak aV 63=true:=by kernel_rfl
def Uj:ak aV 64=true:=by kernel_rfl
def Ww:ak aV 65=true:=by kernel_rfl
def SM:ak aV 66=true:=by kernel_rfl
def Wv:ak aV 67=true:=by kernel_rfl
def Wu:ak aV 68=true:=by kernel_rfl
def SL:ak aV 69=true:=by kernel_rfl
def Wt:ak aV 70=true:=by kernel_rfl
def Ws:ak aV 71=true:=by kernel_rfl
def Wr:ak aV 72=true:=by kernel_rfl
def Wq:ak aV 73=true:=by kernel_rfl
def Wp:ak aV 74=true:=by kernel_rfl
def Wo:ak aV 81=true:=by kernel_rfl
def Wn:ak aV 82=true:=by kernel_rfl
def SK:ak aV 83=true:=by kernel_rfl
def Ui:ak aV 84=true:=by kernel_rfl
def Wm:ak aV 85=true:=by kernel_rfl
def Wl:ak aV 86=true:=by kernel_rfl
def SJ:ak aV 87=true:=by kernel_rfl
def Wk:ak aV 88=true:=by kernel_rfl
def Wj:ak aV 89=true:=by kernel_rfl
def SI:ak aV 90=true:=by kernel_rfl
def Uh:ak aV 97=true:=by kernel_rfl
def Wi:ak aV 98=true:=by kernel_rfl
def vn:ak aV 99=true:=by kernel_rfl
def VI:ak aV 100=true:=by kernel_rfl
def zS:ak aV 101=true:=by kernel_rfl
def GV:ak aV 102=true:=by kernel_rfl
def QE:ak aV 106=true:=by kernel_rfl
def VH:ak aV 112=true:=by kernel_rfl
def VG:ak aV 113=true:=by kernel_rfl
def VF:ak aV 114=true:=by kernel_rfl
def VD:ak aV 115=true:=by kernel_rfl
def DU:ak aV 116=true:=by kernel_rfl
def QD:ak aV 117=true:=by kernel_rfl
def VC:ak aV 118=true:=by kernel_rfl
def VB:ak aV 119=true:=by kernel_rfl
def VA:ak aV 126=true:=by kernel_rfl
def Vz:ak aV 127=true:=by kernel_rfl
def NC:ak aV 128=true:=by kernel_rfl
def Vy:ak aV 129=true:=by kernel_rfl
def J3:ak aV 130=true:=by kernel_rfl
def GU:ak aV 136=true:=by kernel_rfl
def J2:ak aV 137=true:=by kernel_rfl
def Vx:ak aV 138=true:=by kernel_rfl
def Vw:ak aV 139=true:=by kernel_rfl
def Vv:ak aV 140=true:=by kernel_rfl
def GT:ak aV 141=true:=by kernel_rfl
def Vu:ak aV 144=true:=by kernel_rfl
def NB:ak aV 145=true:=by kernel_rfl
def Vt:ak aV 147=true:=by kernel_rfl
def Vs:ak aV 148=true:=by kernel_rfl
def Vr:ak aV 154=true:=by kernel_rfl
def Vq:ak aV 155=true:=by kernel_rfl
def Vp:ak aV 156=true:=by kernel_rfl
def Vo:ak aV 157=true:=by kernel_rfl
def Vn:ak aV 158=true:=by kernel_rfl
def QC:ak aV 159=true:=by kernel_rfl
def Vm:ak aV 160=true:=by kernel_rfl
def Vl:ak aV 163=true:=by kernel_rfl
def Vk:ak aV 164=true:=by kernel_rfl
def Vj:ak aV 165=true:=by kernel_rfl
def Vi:ak aV 166=true:=by kernel_rfl
def QB:ak aV 167=true:=by kernel_rfl
def Vh:ak aV 168=true:=by kernel_rfl
def Vg:ak aV 169=true:=by kernel_rfl
def Ve:ak aV 170=true:=by kernel_rfl
def Vd:ak aV 171=true:=by kernel_rfl
def Vc:ak aV 172=true:=by kernel_rfl
def Vb:ak aV 173=true:=by kernel_rfl
def Va:ak aV 174=true:=by kernel_rfl
def U9:ak aV 175=true:=by kernel_rfl
def U8:ak aV 176=true:=by kernel_rfl
def QA:ak aV 177=true:=by kernel_rfl
def J1:ak aV 181=true:=by kernel_rfl
def U7:ak aV 182=true:=by kernel_rfl
def J0:ak aV 183=true:=by kernel_rfl
def U6:ak aV 184=true:=by kernel_rfl
def U5:ak aV 185=true:=by kernel_rfl
def U4:ak aV 186=true:=by kernel_rfl
def U3:ak aV 187=true:=by kernel_rfl
def U2:ak aV 188=true:=by kernel_rfl
def vo:ak aV 189=true:=by kernel_rfl
def U1:ak aV 190=true:=by kernel_rfl
def Qz:ak aV 193=true:=by kernel_rfl
def U0:ak aV 197=true:=by kernel_rfl
def UZ:ak aV 198=true:=by kernel_rfl
def UY:ak aV 199=true:=by kernel_rfl
def UX:ak aV 200=true:=by kernel_rfl
def UW:ak aV 202=true:=by kernel_rfl
def UV:ak aV 203=true:=by kernel_rfl
def UU:ak aV 204=true:=by kernel_rfl
def Qy:ak aV 205=true:=by kernel_rfl
def JZ:ak aV 206=true:=by kernel_rfl
def UT:ak aV 207=true:=by kernel_rfl
def US:ak aV 208=true:=by kernel_rfl
def UR:ak aV 209=true:=by kernel_rfl
def yp:ak aV 210=true:=by kernel_rfl
def Qx:ak aV 214=true:=by kernel_rfl
def UQ:ak aV 215=true:=by kernel_rfl
def UP:ak aV 216=true:=by kernel_rfl
def UO:ak aV 217=true:=by kernel_rfl
def UN:ak aV 218=true:=by kernel_rfl
def UM:ak aV 219=true:=by kernel_rfl
def NA:ak aV 220=true:=by kernel_rfl
def Qw:ak aV 221=true:=by kernel_rfl
def zR:ak aV 222=true:=by kernel_rfl
def UL:ak aV 225=true:=by kernel_rfl
def UK:ak aV 228=true:=by kernel_rfl
def UJ:ak aV 229=true:=by kernel_rfl
def UI:ak aV 230=true:=by kernel_rfl
def UH:ak aV 231=true:=by kernel_rfl
def UG:ak aV 232=true:=by kernel_rfl
def Qv:ak aV 233=true:=by kernel_rfl
def UF:ak aV 234=true:=by kernel_rfl
def UE:ak aV 235=true:=by kernel_rfl
def UD:ak aV 236=true:=by kernel_rfl
def UC:ak aV 237=true:=by kernel_rfl
def UB:ak aV 238=true:=by kernel_rfl
def UA:ak aV 239=true:=by kernel_rfl
def Uz:ak aV 242=true:=by kernel_rfl
def Qu:ak aV 243=true:=by kernel_rfl
def Uy:ak aV 245=true:=by kernel_rfl
def Ux:ak aV 248=true:=by kernel_rfl
def Uw:ak aV 249=true:=by kernel_rfl
def Uv:ak aV 250=true:=by kernel_rfl
def Uu:ak aV 251=true:=by kernel_rfl
def Ut:ak aV 252=true:=by kernel_rfl
def Us:ak aV 253=true:=by kernel_rfl
def Qt:ak aV 254=true:=by kernel_rfl
def Ur:ak aV 257=true:=by kernel_rfl
def Uq:ak aV 258=true:=by kernel_rfl
def Up:ak aV 259=true:=by kernel_rfl
def Uo:ak aV 260=true:=by kernel_rfl
def Un:ak aV 264=true:=by kernel_rfl
def Um:ak aV 265=true:=by kernel_rfl
def S2:ZV aV 132 (.nilFunc):=(show(Tryz.prog.info? 132).bind (fun i=>i.zero)=some (.nilFunc) by kernel_rfl)
def SZ:ZV aV 172 (.nilFunc):=(show(Tryz.prog.info? 172).bind (fun i=>i.zero)=some (.nilFunc) by kernel_rfl)
def Wf:Hj aV 62 (mg (rI .i64) 6):=Hj.of (by kernel_rfl) (jg (JV (n:=1) Tryz.underlying62 bS rfl rfl (pM (n:=0) kz)) 18)
def Nr:jX aV 104 be 2:=xf (n:=1) (fs:=[(3,0,false),(2,1,false),(26,2,false),(9,3,false)]) (by kernel_rfl) (by kernel_rfl) rfl (DZ.cons bS rfl rfl mS (jg (pM (n:=0) kz) 0) (DZ.cons Mb rfl rfl po (jg (pM (n:=0) AC) 0) (DZ.cons oA rfl rfl By (jg (pM (n:=0) xr) 0) (DZ.cons SS rfl rfl tJ (jg (PJ (n:=0) AG) 0) DZ.nil)))) (fun x y=>by cases x;cases y;simp [Bool.decide_and])
def JW:Hj aV 104 be:=Hj.of (by kernel_rfl) (jg Nr 18)
def SE:jX aV 113 gB 2:=xf (n:=1) (fs:=[(3,0,false),(4,1,false)]) (by kernel_rfl) (by kernel_rfl) rfl (DZ.cons bS rfl rfl xZ (jg (pM (n:=0) kz) 0) (DZ.cons yM rfl rfl GC (jg (Nq (n:=0) Jd) 0) DZ.nil)) (fun x y=>by cases x;cases y;simp [Bool.decide_and])
def Uc:Hj aV 113 gB:=Hj.of (by kernel_rfl) (jg SE 18)
def SD:jX aV 160 bq 3:=xf (n:=2) (fs:=[(3,0,false),(3,1,false),(3,2,false),(3,3,false),(104,4,false)]) (by kernel_rfl) (by kernel_rfl) rfl (DZ.cons bS rfl rfl ff (jg (pM (n:=0) kz) 1) (DZ.cons bS rfl rfl BA (jg (pM (n:=0) kz) 1) (DZ.cons bS rfl rfl Bz (jg (pM (n:=0) kz) 1) (DZ.cons bS rfl rfl mW (jg (pM (n:=0) kz) 1) (DZ.cons cO rfl rfl pq (jg Nr 0) DZ.nil))))) (fun x y=>by cases x;cases y;simp [Bool.decide_and])
def Ub:Hj aV 160 bq:=Hj.of (by kernel_rfl) (jg SD 17)
def Qq:Hj aV 209 (mg (rI .i64) 2):=Hj.of (by kernel_rfl) (jg (JV (n:=1) AE bS rfl rfl (pM (n:=0) kz)) 18)

end Go.Proofs.YtdohlidddcgfjaaGreat

