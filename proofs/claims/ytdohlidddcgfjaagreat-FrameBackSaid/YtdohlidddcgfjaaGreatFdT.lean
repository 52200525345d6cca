/- bT of this claim: T. -/
import Derived.Test.YtdohlidddcgfjaaGreatFdD
import Derived.Test.YtdohlidddcgfjaaGreatProg
import Derived.Test.YtdohlidddcgfjaaGreatFdS
import Derived.Test.YtdohlidddcgfjaaGreatFdV4
import Derived.KernelRfl
set_option linter.all false
namespace Go.Proofs.YtdohlidddcgfjaaGreat
open Go
noncomputable abbrev aY:=Tryz.prog
def fx:= @Tryz.underlying69
def iY:= @Tryz.underlying37
def lr:= @Tryz.underlying3
def qr:= @Tryz.underlying85
def sq:= @Tryz.underlying82
def tR:= @Tryz.underlying68
def u4:= @Tryz.underlying27
def uZ:= @Tryz.underlying5
def wV:= @Tryz.underlying22
def xb:= @Tryz.underlying86
def yT:= @Tryz.underlying87
def zr:= @Tryz.underlying26
def Aj:= @Tryz.underlying102
def CY:= @Tryz.underlying169
def CX:= @Tryz.underlying74
def Fy:= @Tryz.underlying133
def Fx:= @Tryz.underlying9
def Hs:= @Tryz.underlying152
def DI:= @Tryz.underlying25
def Cr:= @Tryz.underlying2
def Ga:= @Tryz.underlying4
def DH:= @Tryz.underlying186
def DG:= @Tryz.underlying209
def F8:= @Tryz.underlying207

def mixed:Tryz.prog.follows .mixedOrders=true:=by kernel_rfl
def Rh:TI aY 2 1 8 false [.int .i64 0]:=⟨by kernel_rfl,by kernel_rfl⟩
def b9:TI aY 3 1 8 false [.int .i64 0]:=⟨by kernel_rfl,by kernel_rfl⟩
def Ad:TI aY 4 1 1 false [.bool false]:=⟨by kernel_rfl,by kernel_rfl⟩
def tW:TI aY 5 1 1 false [.int .u8 0]:=⟨by kernel_rfl,by kernel_rfl⟩
def V1:TI aY 9 1 16 false [.string ⟨#[]⟩]:=⟨by kernel_rfl,by kernel_rfl⟩
def HN:TI aY 22 1 24 false [.slice none 0 0]:=⟨by kernel_rfl,by kernel_rfl⟩
def C3:TI aY 24 1 24 true [.slice none 0 0]:=⟨by kernel_rfl,by kernel_rfl⟩
def qY:TI aY 25 1 4 false [.int .u32 0]:=⟨by kernel_rfl,by kernel_rfl⟩
def pt:TI aY 26 1 8 false [.int .u64 0]:=⟨by kernel_rfl,by kernel_rfl⟩
def HM:TI aY 27 1 24 false [.slice none 0 0]:=⟨by kernel_rfl,by kernel_rfl⟩
def Xc:TI aY 29 3 40 true [.slice none 0 0,.bool false,.int .u64 0]:=⟨by kernel_rfl,by kernel_rfl⟩
def sx:TI aY 31 7 72 true [.int .i64 0,.int .u32 0,.int .u64 0,.int .u64 0,.slice none 0 0,.bool false,.int .u64 0]:=⟨by kernel_rfl,by kernel_rfl⟩
def zx:TI aY 32 1 8 false [.int .i64 0]:=⟨by kernel_rfl,by kernel_rfl⟩
def iz:TI aY 34 15 152 true [.int .i64 0,.int .i64 0,.int .i64 0,.int .i64 0,.int .i64 0,.int .i64 0,.slice none 0 0,.int .i64 0,.int .u32 0,.int .u64 0,.int .u64 0,.slice none 0 0,.bool false,.int .u64 0,.int .i64 0]:=⟨by kernel_rfl,by kernel_rfl⟩
def pO:TI aY 37 1 24 false [.slice none 0 0]:=⟨by kernel_rfl,by kernel_rfl⟩
def acb:TI aY 60 1 24 true [.slice none 0 0]:=⟨by kernel_rfl,by kernel_rfl⟩
def ZC:TI aY 62 6 48 true (List.replicate 6 (.int .i64 0)):=⟨by kernel_rfl,by kernel_rfl⟩
def FC:TI aY 68 1 24 false [.slice none 0 0]:=⟨by kernel_rfl,by kernel_rfl⟩
def c0:TI aY 69 1 24 false [.slice none 0 0]:=⟨by kernel_rfl,by kernel_rfl⟩
def qq:TI aY 71 4 64 true [.slice none 0 0,.int .i64 0,.int .i64 0,.slice none 0 0]:=⟨by kernel_rfl,by kernel_rfl⟩
def TX:TI aY 74 1 24 false [.slice none 0 0]:=⟨by kernel_rfl,by kernel_rfl⟩
def sw:TI aY 77 1 8 false [.pointer none]:=⟨by kernel_rfl,by kernel_rfl⟩
def BG:TI aY 82 1 24 false [.slice none 0 0]:=⟨by kernel_rfl,by kernel_rfl⟩
def kY:TI aY 84 1 24 true [.slice none 0 0]:=⟨by kernel_rfl,by kernel_rfl⟩
def wY:TI aY 85 1 24 false [.slice none 0 0]:=⟨by kernel_rfl,by kernel_rfl⟩
def HK:TI aY 86 1 24 false [.slice none 0 0]:=⟨by kernel_rfl,by kernel_rfl⟩
def HJ:TI aY 87 1 24 false [.slice none 0 0]:=⟨by kernel_rfl,by kernel_rfl⟩
def gv:TI aY 89 12 192 true [.int .i64 0,.int .i64 0,.int .i64 0,.int .i64 0,.slice none 0 0,.bool false,.slice none 0 0,.slice none 0 0,.slice none 0 0,.slice none 0 0,.slice none 0 0,.int .i64 0]:=⟨by kernel_rfl,by kernel_rfl⟩
def Cy:TI aY 102 1 24 false [.slice none 0 0]:=⟨by kernel_rfl,by kernel_rfl⟩
def dd:TI aY 104 4 40 true [.int .i64 0,.int .i64 0,.int .u64 0,.string ⟨#[]⟩]:=⟨by kernel_rfl,by kernel_rfl⟩
def td:TI aY 113 2 16 true [.int .i64 0,.bool false]:=⟨by kernel_rfl,by kernel_rfl⟩
def kN:TI aY 115 2 32 true [.int .i64 0,.slice none 0 0]:=⟨by kernel_rfl,by kernel_rfl⟩
def Ri:TI aY 120 1 8 false [.nilFunc]:=⟨by kernel_rfl,by kernel_rfl⟩
def ki:TI aY 143 1 8 false [.pointer none]:=⟨by kernel_rfl,by kernel_rfl⟩
def ZI:TI aY 146 3 40 true [.pointer none,.slice none 0 0,.bool false]:=⟨by kernel_rfl,by kernel_rfl⟩
def Gl:TI aY 152 256 1024 true (List.replicate 256 (.int .u32 0)):=⟨by kernel_rfl,by kernel_rfl⟩
def jx:TI aY 160 8 72 true [.int .i64 0,.int .i64 0,.int .i64 0,.int .i64 0,.int .i64 0,.int .i64 0,.int .u64 0,.string ⟨#[]⟩]:=⟨by kernel_rfl,by kernel_rfl⟩
def DW:TI aY 166 1 8 false [.pointer none]:=⟨by kernel_rfl,by kernel_rfl⟩
def ZH:TI aY 168 18 336 true [.slice none 0 0,.slice none 0 0,.slice none 0 0,.int .i64 0,.int .i64 0,.int .i64 0,.int .i64 0,.slice none 0 0,.bool false,.slice none 0 0,.slice none 0 0,.slice none 0 0,.slice none 0 0,.slice none 0 0,.int .i64 0,.slice none 0 0,.slice none 0 0,.slice none 0 0]:=⟨by kernel_rfl,by kernel_rfl⟩
def ZG:TI aY 183 3 40 true [.int .i64 0,.int .i64 0,.slice none 0 0]:=⟨by kernel_rfl,by kernel_rfl⟩
def Gk:TI aY 186 1 24 false [.slice none 0 0]:=⟨by kernel_rfl,by kernel_rfl⟩
def y4:TI aY 209 2 16 true (List.replicate 2 (.int .i64 0)):=⟨by kernel_rfl,by kernel_rfl⟩
def ZF:TI aY 250 3 24 true [.pointer none,.int .i64 0,.bool false]:=⟨by kernel_rfl,by kernel_rfl⟩
def wm:bK aY 24 0=some (0,1):=by kernel_rfl
def wl:bK aY 29 0=some (0,1):=by kernel_rfl
def wk:bK aY 29 1=some (1,1):=by kernel_rfl
def xX:bK aY 29 2=some (2,1):=by kernel_rfl
def E1:bK aY 31 0=some (0,1):=by kernel_rfl
def Ix:bK aY 31 1=some (1,1):=by kernel_rfl
def zX:bK aY 31 2=some (2,1):=by kernel_rfl
def zW:bK aY 31 3=some (3,1):=by kernel_rfl
def oG:bK aY 31 4=some (4,3):=by kernel_rfl
def xW:bK aY 34 0=some (0,1):=by kernel_rfl
def E0:bK aY 34 1=some (1,1):=by kernel_rfl
def EZ:bK aY 34 2=some (2,1):=by kernel_rfl
def B7:bK aY 34 3=some (3,1):=by kernel_rfl
def xV:bK aY 34 4=some (4,1):=by kernel_rfl
def zV:bK aY 34 5=some (5,1):=by kernel_rfl
def zU:bK aY 34 6=some (6,1):=by kernel_rfl
def wj:bK aY 34 7=some (7,7):=by kernel_rfl
def xU:bK aY 34 8=some (14,1):=by kernel_rfl
def oF:bK aY 60 0=some (0,1):=by kernel_rfl
def zT:bK aY 71 0=some (0,1):=by kernel_rfl
def EY:bK aY 71 1=some (1,1):=by kernel_rfl
def EX:bK aY 71 2=some (2,1):=by kernel_rfl
def B6:bK aY 71 3=some (3,1):=by kernel_rfl
def rq:bK aY 84 0=some (0,1):=by kernel_rfl
def lX:bK aY 89 0=some (0,1):=by kernel_rfl
def sj:bK aY 89 1=some (1,1):=by kernel_rfl
def tE:bK aY 89 2=some (2,1):=by kernel_rfl
def wh:bK aY 89 3=some (3,1):=by kernel_rfl
def qO:bK aY 89 4=some (4,1):=by kernel_rfl
def EW:bK aY 89 5=some (5,1):=by kernel_rfl
def uS:bK aY 89 6=some (6,1):=by kernel_rfl
def pX:bK aY 89 7=some (7,1):=by kernel_rfl
def nI:bK aY 89 8=some (8,1):=by kernel_rfl
def wg:bK aY 89 9=some (9,1):=by kernel_rfl
def sH:bK aY 89 10=some (10,1):=by kernel_rfl
def wi:bK aY 89 11=some (11,1):=by kernel_rfl
def qP:bK aY 104 0=some (0,1):=by kernel_rfl
def rJ:bK aY 104 1=some (1,1):=by kernel_rfl
def IA:bK aY 104 2=some (2,1):=by kernel_rfl
def wq:bK aY 104 3=some (3,1):=by kernel_rfl
def Iz:bK aY 113 0=some (0,1):=by kernel_rfl
def UM:bK aY 113 1=some (1,1):=by kernel_rfl
def pc:bK aY 115 0=some (0,1):=by kernel_rfl
def sJ:bK aY 115 1=some (1,1):=by kernel_rfl
def mo:bK aY 146 0=some (0,1):=by kernel_rfl
def Oj:bK aY 146 1=some (1,1):=by kernel_rfl
def uz:bK aY 146 2=some (2,1):=by kernel_rfl
def mn:bK aY 160 0=some (0,1):=by kernel_rfl
def Ds:bK aY 160 1=some (1,1):=by kernel_rfl
def Dr:bK aY 160 2=some (2,1):=by kernel_rfl
def uy:bK aY 160 3=some (3,1):=by kernel_rfl
def wp:bK aY 160 4=some (4,4):=by kernel_rfl
def Iy:bK aY 168 0=some (0,1):=by kernel_rfl
def Dq:bK aY 168 1=some (1,1):=by kernel_rfl
def sI:bK aY 168 2=some (2,1):=by kernel_rfl
def hU:bK aY 168 3=some (3,12):=by kernel_rfl
def jI:bK aY 168 4=some (15,1):=by kernel_rfl
def Bf:bK aY 168 5=some (16,1):=by kernel_rfl
def gc:bK aY 168 6=some (17,1):=by kernel_rfl
def wo:bK aY 181 0=some (0,1):=by kernel_rfl
def wn:bK aY 181 1=some (1,1):=by kernel_rfl
def nP:bK aY 183 0=some (0,2):=by kernel_rfl
def Dp:bK aY 183 1=some (2,1):=by kernel_rfl
def lP:bK aY 250 0=some (0,1):=by kernel_rfl
def Oi:bK aY 250 1=some (1,1):=by kernel_rfl
def yI:bK aY 250 2=some (2,1):=by kernel_rfl
def Z6:jk aY 24=some [(0,1)]:=by kernel_rfl
def acj:jk aY 29=some [(0,1),(1,1),(2,1)]:=by kernel_rfl
def XH:jk aY 31=some [(0,1),(1,1),(2,1),(3,1),(4,3)]:=by kernel_rfl
def Kx:jk aY 34=some [(0,1),(1,1),(2,1),(3,1),(4,1),(5,1),(6,1),(7,7),(14,1)]:=by kernel_rfl
def aci:jk aY 60=some [(0,1)]:=by kernel_rfl
def Z4:jk aY 71=some [(0,1),(1,1),(2,1),(3,1)]:=by kernel_rfl
def ach:jk aY 84=some [(0,1)]:=by kernel_rfl
def acg:jk aY 89=some [(0,1),(1,1),(2,1),(3,1),(4,1),(5,1),(6,1),(7,1),(8,1),(9,1),(10,1),(11,1)]:=by kernel_rfl
def Su:jk aY 104=some [(0,1),(1,1),(2,1),(3,1)]:=by kernel_rfl
def aac:jk aY 113=some [(0,1),(1,1)]:=by kernel_rfl
def aab:jk aY 115=some [(0,1),(1,1)]:=by kernel_rfl
def aaa:jk aY 146=some [(0,1),(1,1),(2,1)]:=by kernel_rfl
def Z9:jk aY 160=some [(0,1),(1,1),(2,1),(3,1),(4,4)]:=by kernel_rfl
def Z8:jk aY 168=some [(0,1),(1,1),(2,1),(3,12),(15,1),(16,1),(17,1)]:=by kernel_rfl
def Z7:jk aY 183=some [(0,2),(2,1)]:=by kernel_rfl
def Z5:jk aY 250=some [(0,1),(1,1),(2,1)]:=by kernel_rfl
def acX:ak aY 10=true:=by kernel_rfl
def abX:ak aY 11=true:=by kernel_rfl
def YM:ak aY 12=true:=by kernel_rfl
def Qp:ak aY 14=true:=by kernel_rfl
def YL:ak aY 17=true:=by kernel_rfl
def acW:ak aY 19=true:=by kernel_rfl
def acV:ak aY 25=true:=by kernel_rfl
def aaC:ak aY 27=true:=by kernel_rfl
def acU:ak aY 28=true:=by kernel_rfl
def aaB:ak aY 29=true:=by kernel_rfl
def acT:ak aY 30=true:=by kernel_rfl
def acS:ak aY 31=true:=by kernel_rfl
def acR:ak aY 32=true:=by kernel_rfl
def acQ:ak aY 39=true:=by kernel_rfl
def acP:ak aY 40=true:=by kernel_rfl
def acO:ak aY 41=true:=by kernel_rfl
def acN:ak aY 43=true:=by kernel_rfl
def acM:ak aY 44=true:=by kernel_rfl
def acL:ak aY 45=true:=by kernel_rfl
def acK:ak aY 50=true:=by kernel_rfl
def acJ:ak aY 51=true:=by kernel_rfl
def acI:ak aY 54=true:=by kernel_rfl
def aaA:ak aY 55=true:=by kernel_rfl
def acH:ak aY 56=true:=by kernel_rfl
def acG:ak aY 57=true:=by kernel_rfl
def acF:ak aY 58=true:=by kernel_rfl
def w5:ak aY 59=true:=by kernel_rfl
def acE:ak aY 60=true:=by kernel_rfl
def Vz:ak aY 61=true:=by kernel_rfl
def aaz:ak aY 62=true:=by kernel_rfl
def acD:ak aY 63=true:=by kernel_rfl
def aay:ak aY 64=true:=by kernel_rfl
def acC:ak aY 65=true:=by kernel_rfl
def YK:ak aY 66=true:=by kernel_rfl
def acB:ak aY 67=true:=by kernel_rfl
def acA:ak aY 68=true:=by kernel_rfl
def YJ:ak aY 69=true:=by kernel_rfl
def acz:ak aY 70=true:=by kernel_rfl
def acy:ak aY 71=true:=by kernel_rfl
def acx:ak aY 72=true:=by kernel_rfl
def acw:ak aY 73=true:=by kernel_rfl
def acv:ak aY 74=true:=by kernel_rfl
def YI:ak aY 80=true:=by kernel_rfl
def acu:ak aY 81=true:=by kernel_rfl
def act:ak aY 82=true:=by kernel_rfl
def YH:ak aY 83=true:=by kernel_rfl
def aax:ak aY 84=true:=by kernel_rfl
def acs:ak aY 85=true:=by kernel_rfl
def acr:ak aY 86=true:=by kernel_rfl
def YG:ak aY 87=true:=by kernel_rfl
def acq:ak aY 88=true:=by kernel_rfl
def acp:ak aY 89=true:=by kernel_rfl
def YF:ak aY 90=true:=by kernel_rfl
def aaw:ak aY 97=true:=by kernel_rfl
def aco:ak aY 98=true:=by kernel_rfl
def sM:ak aY 99=true:=by kernel_rfl
def abY:ak aY 100=true:=by kernel_rfl
def Bm:ak aY 101=true:=by kernel_rfl
def Hf:ak aY 102=true:=by kernel_rfl
def WA:ak aY 105=true:=by kernel_rfl
def OJ:ak aY 106=true:=by kernel_rfl
def abW:ak aY 112=true:=by kernel_rfl
def abV:ak aY 113=true:=by kernel_rfl
def abU:ak aY 114=true:=by kernel_rfl
def abT:ak aY 115=true:=by kernel_rfl
def He:ak aY 116=true:=by kernel_rfl
def Wz:ak aY 117=true:=by kernel_rfl
def abS:ak aY 118=true:=by kernel_rfl
def abR:ak aY 119=true:=by kernel_rfl
def abQ:ak aY 126=true:=by kernel_rfl
def abP:ak aY 127=true:=by kernel_rfl
def Tf:ak aY 128=true:=by kernel_rfl
def abO:ak aY 129=true:=by kernel_rfl
def OH:ak aY 130=true:=by kernel_rfl
def Hd:ak aY 136=true:=by kernel_rfl
def OG:ak aY 137=true:=by kernel_rfl
def abN:ak aY 138=true:=by kernel_rfl
def abM:ak aY 139=true:=by kernel_rfl
def abL:ak aY 140=true:=by kernel_rfl
def E9:ak aY 141=true:=by kernel_rfl
def Te:ak aY 144=true:=by kernel_rfl
def E8:ak aY 145=true:=by kernel_rfl
def abK:ak aY 146=true:=by kernel_rfl
def Wy:ak aY 147=true:=by kernel_rfl
def Wx:ak aY 148=true:=by kernel_rfl
def abJ:ak aY 154=true:=by kernel_rfl
def abI:ak aY 155=true:=by kernel_rfl
def abH:ak aY 156=true:=by kernel_rfl
def abG:ak aY 157=true:=by kernel_rfl
def abF:ak aY 158=true:=by kernel_rfl
def Ww:ak aY 159=true:=by kernel_rfl
def abE:ak aY 160=true:=by kernel_rfl
def abD:ak aY 163=true:=by kernel_rfl
def abC:ak aY 164=true:=by kernel_rfl
def abB:ak aY 165=true:=by kernel_rfl
def abA:ak aY 166=true:=by kernel_rfl
def Wv:ak aY 167=true:=by kernel_rfl
def abz:ak aY 168=true:=by kernel_rfl
def aby:ak aY 169=true:=by kernel_rfl
def abx:ak aY 170=true:=by kernel_rfl
def abw:ak aY 171=true:=by kernel_rfl
def abv:ak aY 172=true:=by kernel_rfl
def abu:ak aY 173=true:=by kernel_rfl
def abt:ak aY 174=true:=by kernel_rfl
def abs:ak aY 175=true:=by kernel_rfl
def abr:ak aY 176=true:=by kernel_rfl
def Wu:ak aY 177=true:=by kernel_rfl
def OF:ak aY 181=true:=by kernel_rfl
def abq:ak aY 182=true:=by kernel_rfl
def OD:ak aY 183=true:=by kernel_rfl
def abp:ak aY 184=true:=by kernel_rfl
def abo:ak aY 185=true:=by kernel_rfl
def abn:ak aY 186=true:=by kernel_rfl
def abm:ak aY 187=true:=by kernel_rfl
def abl:ak aY 188=true:=by kernel_rfl
def yd:ak aY 189=true:=by kernel_rfl
def Wt:ak aY 190=true:=by kernel_rfl
def abk:ak aY 191=true:=by kernel_rfl
def abj:ak aY 192=true:=by kernel_rfl
def Ws:ak aY 193=true:=by kernel_rfl
def abi:ak aY 197=true:=by kernel_rfl
def abh:ak aY 198=true:=by kernel_rfl
def abg:ak aY 199=true:=by kernel_rfl
def abf:ak aY 200=true:=by kernel_rfl
def abe:ak aY 202=true:=by kernel_rfl
def abd:ak aY 203=true:=by kernel_rfl
def abc:ak aY 204=true:=by kernel_rfl
def Wr:ak aY 205=true:=by kernel_rfl
def OC:ak aY 206=true:=by kernel_rfl
def abb:ak aY 207=true:=by kernel_rfl
def aba:ak aY 208=true:=by kernel_rfl
def aa9:ak aY 209=true:=by kernel_rfl
def Bl:ak aY 210=true:=by kernel_rfl
def Wq:ak aY 214=true:=by kernel_rfl
def aa8:ak aY 215=true:=by kernel_rfl
def Wp:ak aY 216=true:=by kernel_rfl
def aa7:ak aY 217=true:=by kernel_rfl
def aa6:ak aY 218=true:=by kernel_rfl
def aa5:ak aY 219=true:=by kernel_rfl
def Td:ak aY 220=true:=by kernel_rfl
def Wo:ak aY 221=true:=by kernel_rfl
def zl:ak aY 222=true:=by kernel_rfl
def aa4:ak aY 223=true:=by kernel_rfl
def aa3:ak aY 224=true:=by kernel_rfl
def aa2:ak aY 225=true:=by kernel_rfl
def aa1:ak aY 228=true:=by kernel_rfl
def aa0:ak aY 229=true:=by kernel_rfl
def aaZ:ak aY 230=true:=by kernel_rfl
def aaY:ak aY 231=true:=by kernel_rfl
def aaX:ak aY 232=true:=by kernel_rfl
def Wn:ak aY 233=true:=by kernel_rfl
def aaW:ak aY 234=true:=by kernel_rfl
def aaV:ak aY 235=true:=by kernel_rfl
def aaU:ak aY 236=true:=by kernel_rfl
def aaT:ak aY 237=true:=by kernel_rfl
def aaS:ak aY 238=true:=by kernel_rfl
def aaR:ak aY 239=true:=by kernel_rfl
def aaQ:ak aY 242=true:=by kernel_rfl
def OB:ak aY 243=true:=by kernel_rfl
def aaP:ak aY 244=true:=by kernel_rfl
def Wm:ak aY 245=true:=by kernel_rfl
def aaO:ak aY 248=true:=by kernel_rfl
def aaN:ak aY 249=true:=by kernel_rfl
def aaM:ak aY 250=true:=by kernel_rfl
def aaL:ak aY 251=true:=by kernel_rfl
def aaK:ak aY 252=true:=by kernel_rfl
def aaJ:ak aY 253=true:=by kernel_rfl
def Wl:ak aY 254=true:=by kernel_rfl
def aaI:ak aY 257=true:=by kernel_rfl
def aaH:ak aY 258=true:=by kernel_rfl
def aaG:ak aY 259=true:=by kernel_rfl
def aaF:ak aY 260=true:=by kernel_rfl
def aaE:ak aY 264=true:=by kernel_rfl
def aaD:ak aY 265=true:=by kernel_rfl
def Zg:ZV aY 132 (.nilFunc):=(show(Tryz.prog.info? 132).bind (fun i=>i.zero)=some (.nilFunc) by kernel_rfl)
def Zf:ZV aY 172 (.nilFunc):=(show(Tryz.prog.info? 172).bind (fun i=>i.zero)=some (.nilFunc) by kernel_rfl)
def acl:Lm aY 62 (nF (rI .i64) 6):=Lm.of (by kernel_rfl) (kq (Ox (n:=1) Tryz.underlying62 b9 rfl rfl (rK (n:=0) lr)) 18)
def S3:lu aY 104 be 2:=z2 (n:=1) (fs:=[(3,0,false),(2,1,false),(26,2,false),(9,3,false)]) (by kernel_rfl) (by kernel_rfl) rfl (Hl.cons b9 rfl rfl ox (kq (rK (n:=0) lr) 0) (Hl.cons Rh rfl rfl rp (kq (rK (n:=0) Cr) 0) (Hl.cons pt rfl rfl EQ (kq (rK (n:=0) zr) 0) (Hl.cons V1 rfl rfl ro (kq (Vt (n:=0) Fx) 0) Hl.nil)))) (fun x y=>by cases x;cases y;simp [Bool.decide_and])
def Oy:Lm aY 104 be:=Lm.of (by kernel_rfl) (kq S3 18)
def YD:lu aY 113 iA 2:=z2 (n:=1) (fs:=[(3,0,false),(4,1,false)]) (by kernel_rfl) (by kernel_rfl) rfl (Hl.cons b9 rfl rfl A8 (kq (rK (n:=0) lr) 0) (Hl.cons Ad rfl rfl KC (kq (S2 (n:=0) Ga) 0) Hl.nil)) (fun x y=>by cases x;cases y;simp [Bool.decide_and])
def aaq:Lm aY 113 iA:=Lm.of (by kernel_rfl) (kq YD 18)
def YC:lu aY 160 bD 3:=z2 (n:=2) (fs:=[(3,0,false),(3,1,false),(3,2,false),(3,3,false),(104,4,false)]) (by kernel_rfl) (by kernel_rfl) rfl (Hl.cons b9 rfl rfl gu (kq (rK (n:=0) lr) 1) (Hl.cons b9 rfl rfl ES (kq (rK (n:=0) lr) 1) (Hl.cons b9 rfl rfl ER (kq (rK (n:=0) lr) 1) (Hl.cons b9 rfl rfl oC (kq (rK (n:=0) lr) 1) (Hl.cons dd rfl rfl pV (kq S3 0) Hl.nil))))) (fun x y=>by cases x;cases y;simp [Bool.decide_and])
def aap:Lm aY 160 bD:=Lm.of (by kernel_rfl) (kq YC 17)
def Wi:Lm aY 209 (nF (rI .i64) 2):=Lm.of (by kernel_rfl) (kq (Ox (n:=1) DG b9 rfl rfl (rK (n:=0) lr)) 18)

end Go.Proofs.YtdohlidddcgfjaaGreat

