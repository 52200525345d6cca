/- cE of this claim: T. -/
import Derived.Test.YtdohlidddcgfjaaGreatFcD
import Derived.Test.YtdohlidddcgfjaaGreatProg
import Derived.Test.YtdohlidddcgfjaaGreatFcS
import Derived.Test.YtdohlidddcgfjaaGreatFcV4
import Derived.KernelRfl
set_option linter.all false
namespace Go.Proofs.YtdohlidddcgfjaaGreat
open Go
noncomputable abbrev bd:=Tryz.prog
def df:= @Tryz.underlying69
def kG:= @Tryz.underlying37
def iL:= @Tryz.underlying3
def j5:= @Tryz.underlying82
def j4:= @Tryz.underlying68
def lb:= @Tryz.underlying85
def nV:= @Tryz.underlying5
def qD:= @Tryz.underlying86
def rA:= @Tryz.underlying22
def rz:= @Tryz.underlying87
def uh:= @Tryz.underlying74
def vF:= @Tryz.underlying26
def AM:= @Tryz.underlying27
def Dg:= @Tryz.underlying169
def Df:= @Tryz.underlying9
def FL:= @Tryz.underlying133
def FK:= @Tryz.underlying102
def DH:= @Tryz.underlying2
def Hw:= @Tryz.underlying152
def Gk:= @Tryz.underlying4
def DN:= @Tryz.underlying186
def DM:= @Tryz.underlying209
def Gj:= @Tryz.underlying25
def I4:= @Tryz.underlying207

def mixed:Tryz.prog.follows .mixedOrders=true:=by kernel_rfl
def Jr:TI bd 2 1 8 false [.int .i64 0]:=⟨by kernel_rfl,by kernel_rfl⟩
def bB:TI bd 3 1 8 false [.int .i64 0]:=⟨by kernel_rfl,by kernel_rfl⟩
def zF:TI bd 4 1 1 false [.bool false]:=⟨by kernel_rfl,by kernel_rfl⟩
def me:TI bd 5 1 1 false [.int .u8 0]:=⟨by kernel_rfl,by kernel_rfl⟩
def Ow:TI bd 9 1 16 false [.string ⟨#[]⟩]:=⟨by kernel_rfl,by kernel_rfl⟩
def v8:TI bd 22 1 24 false [.slice none 0 0]:=⟨by kernel_rfl,by kernel_rfl⟩
def rD:TI bd 24 1 24 true [.slice none 0 0]:=⟨by kernel_rfl,by kernel_rfl⟩
def sa:TI bd 25 1 4 false [.int .u32 0]:=⟨by kernel_rfl,by kernel_rfl⟩
def qf:TI bd 26 1 8 false [.int .u64 0]:=⟨by kernel_rfl,by kernel_rfl⟩
def Lk:TI bd 27 1 24 false [.slice none 0 0]:=⟨by kernel_rfl,by kernel_rfl⟩
def Ww:TI bd 29 3 40 true [.slice none 0 0,.bool false,.int .u64 0]:=⟨by kernel_rfl,by kernel_rfl⟩
def Ox:TI bd 31 7 72 true [.int .i64 0,.int .u32 0,.int .u64 0,.int .u64 0,.slice none 0 0,.bool false,.int .u64 0]:=⟨by kernel_rfl,by kernel_rfl⟩
def B7:TI bd 32 1 8 false [.int .i64 0]:=⟨by kernel_rfl,by kernel_rfl⟩
def zw:TI bd 34 15 152 true [.int .i64 0,.int .i64 0,.int .i64 0,.int .i64 0,.int .i64 0,.int .i64 0,.slice none 0 0,.int .i64 0,.int .u32 0,.int .u64 0,.int .u64 0,.slice none 0 0,.bool false,.int .u64 0,.int .i64 0]:=⟨by kernel_rfl,by kernel_rfl⟩
def qF:TI bd 37 1 24 false [.slice none 0 0]:=⟨by kernel_rfl,by kernel_rfl⟩
def Zg:TI bd 60 1 24 true [.slice none 0 0]:=⟨by kernel_rfl,by kernel_rfl⟩
def Zf:TI bd 62 6 48 true (List.replicate 6 (.int .i64 0)):=⟨by kernel_rfl,by kernel_rfl⟩
def qe:TI bd 68 1 24 false [.slice none 0 0]:=⟨by kernel_rfl,by kernel_rfl⟩
def cu:TI bd 69 1 24 false [.slice none 0 0]:=⟨by kernel_rfl,by kernel_rfl⟩
def nc:TI bd 71 4 64 true [.slice none 0 0,.int .i64 0,.int .i64 0,.slice none 0 0]:=⟨by kernel_rfl,by kernel_rfl⟩
def Tb:TI bd 74 1 24 false [.slice none 0 0]:=⟨by kernel_rfl,by kernel_rfl⟩
def tJ:TI bd 77 1 8 false [.pointer none]:=⟨by kernel_rfl,by kernel_rfl⟩
def nM:TI bd 82 1 24 false [.slice none 0 0]:=⟨by kernel_rfl,by kernel_rfl⟩
def gn:TI bd 84 1 24 true [.slice none 0 0]:=⟨by kernel_rfl,by kernel_rfl⟩
def o0:TI bd 85 1 24 false [.slice none 0 0]:=⟨by kernel_rfl,by kernel_rfl⟩
def wH:TI bd 86 1 24 false [.slice none 0 0]:=⟨by kernel_rfl,by kernel_rfl⟩
def ur:TI bd 87 1 24 false [.slice none 0 0]:=⟨by kernel_rfl,by kernel_rfl⟩
def dA:TI bd 89 12 192 true [.int .i64 0,.int .i64 0,.int .i64 0,.int .i64 0,.slice none 0 0,.bool false,.slice none 0 0,.slice none 0 0,.slice none 0 0,.slice none 0 0,.slice none 0 0,.int .i64 0]:=⟨by kernel_rfl,by kernel_rfl⟩
def FP:TI bd 93 1 24 true [.slice none 0 0]:=⟨by kernel_rfl,by kernel_rfl⟩
def Js:TI bd 102 1 24 false [.slice none 0 0]:=⟨by kernel_rfl,by kernel_rfl⟩
def dh:TI bd 104 4 40 true [.int .i64 0,.int .i64 0,.int .u64 0,.string ⟨#[]⟩]:=⟨by kernel_rfl,by kernel_rfl⟩
def pA:TI bd 113 2 16 true [.int .i64 0,.bool false]:=⟨by kernel_rfl,by kernel_rfl⟩
def ig:TI bd 115 2 32 true [.int .i64 0,.slice none 0 0]:=⟨by kernel_rfl,by kernel_rfl⟩
def Qu:TI bd 120 1 8 false [.nilFunc]:=⟨by kernel_rfl,by kernel_rfl⟩
def ra:TI bd 143 1 8 false [.pointer none]:=⟨by kernel_rfl,by kernel_rfl⟩
def Zk:TI bd 146 3 40 true [.pointer none,.slice none 0 0,.bool false]:=⟨by kernel_rfl,by kernel_rfl⟩
def Gv:TI bd 152 256 1024 true (List.replicate 256 (.int .u32 0)):=⟨by kernel_rfl,by kernel_rfl⟩
def eo:TI bd 160 8 72 true [.int .i64 0,.int .i64 0,.int .i64 0,.int .i64 0,.int .i64 0,.int .i64 0,.int .u64 0,.string ⟨#[]⟩]:=⟨by kernel_rfl,by kernel_rfl⟩
def D5:TI bd 166 1 8 false [.pointer none]:=⟨by kernel_rfl,by kernel_rfl⟩
def Zj:TI bd 168 18 336 true [.slice none 0 0,.slice none 0 0,.slice none 0 0,.int .i64 0,.int .i64 0,.int .i64 0,.int .i64 0,.slice none 0 0,.bool false,.slice none 0 0,.slice none 0 0,.slice none 0 0,.slice none 0 0,.slice none 0 0,.int .i64 0,.slice none 0 0,.slice none 0 0,.slice none 0 0]:=⟨by kernel_rfl,by kernel_rfl⟩
def Zi:TI bd 183 3 40 true [.int .i64 0,.int .i64 0,.slice none 0 0]:=⟨by kernel_rfl,by kernel_rfl⟩
def Gu:TI bd 186 1 24 false [.slice none 0 0]:=⟨by kernel_rfl,by kernel_rfl⟩
def zG:TI bd 209 2 16 true (List.replicate 2 (.int .i64 0)):=⟨by kernel_rfl,by kernel_rfl⟩
def Zh:TI bd 250 3 24 true [.pointer none,.int .i64 0,.bool false]:=⟨by kernel_rfl,by kernel_rfl⟩
def nI:bZ bd 24 0=some (0,1):=by kernel_rfl
def Aw:bZ bd 29 0=some (0,1):=by kernel_rfl
def Av:bZ bd 29 1=some (1,1):=by kernel_rfl
def Au:bZ bd 29 2=some (2,1):=by kernel_rfl
def E4:bZ bd 31 0=some (0,1):=by kernel_rfl
def Iu:bZ bd 31 1=some (1,1):=by kernel_rfl
def As:bZ bd 31 2=some (2,1):=by kernel_rfl
def Cx:bZ bd 31 3=some (3,1):=by kernel_rfl
def tw:bZ bd 31 4=some (4,3):=by kernel_rfl
def Ar:bZ bd 34 0=some (0,1):=by kernel_rfl
def E3:bZ bd 34 1=some (1,1):=by kernel_rfl
def E2:bZ bd 34 2=some (2,1):=by kernel_rfl
def Cw:bZ bd 34 3=some (3,1):=by kernel_rfl
def Cv:bZ bd 34 4=some (4,1):=by kernel_rfl
def Cu:bZ bd 34 5=some (5,1):=by kernel_rfl
def E1:bZ bd 34 6=some (6,1):=by kernel_rfl
def Ct:bZ bd 34 7=some (7,7):=by kernel_rfl
def Cs:bZ bd 34 8=some (14,1):=by kernel_rfl
def pc:bZ bd 60 0=some (0,1):=by kernel_rfl
def sN:bZ bd 71 0=some (0,1):=by kernel_rfl
def vR:bZ bd 71 1=some (1,1):=by kernel_rfl
def vQ:bZ bd 71 2=some (2,1):=by kernel_rfl
def sM:bZ bd 71 3=some (3,1):=by kernel_rfl
def f7:bZ bd 84 0=some (0,1):=by kernel_rfl
def ft:bZ bd 89 0=some (0,1):=by kernel_rfl
def jw:bZ bd 89 1=some (1,1):=by kernel_rfl
def kz:bZ bd 89 2=some (2,1):=by kernel_rfl
def p6:bZ bd 89 3=some (3,1):=by kernel_rfl
def jI:bZ bd 89 4=some (4,1):=by kernel_rfl
def xa:bZ bd 89 5=some (5,1):=by kernel_rfl
def pZ:bZ bd 89 6=some (6,1):=by kernel_rfl
def ju:bZ bd 89 7=some (7,1):=by kernel_rfl
def gA:bZ bd 89 8=some (8,1):=by kernel_rfl
def oc:bZ bd 89 9=some (9,1):=by kernel_rfl
def jv:bZ bd 89 10=some (10,1):=by kernel_rfl
def qu:bZ bd 89 11=some (11,1):=by kernel_rfl
def pb:bZ bd 93 0=some (0,1):=by kernel_rfl
def mT:bZ bd 104 0=some (0,1):=by kernel_rfl
def nl:bZ bd 104 1=some (1,1):=by kernel_rfl
def xd:bZ bd 104 2=some (2,1):=by kernel_rfl
def qS:bZ bd 104 3=some (3,1):=by kernel_rfl
def y9:bZ bd 113 0=some (0,1):=by kernel_rfl
def Ny:bZ bd 113 1=some (1,1):=by kernel_rfl
def jx:bZ bd 115 0=some (0,1):=by kernel_rfl
def oe:bZ bd 115 1=some (1,1):=by kernel_rfl
def vv:bZ bd 146 0=some (0,1):=by kernel_rfl
def Nx:bZ bd 146 1=some (1,1):=by kernel_rfl
def vu:bZ bd 146 2=some (2,1):=by kernel_rfl
def iJ:bZ bd 160 0=some (0,1):=by kernel_rfl
def qv:bZ bd 160 1=some (1,1):=by kernel_rfl
def pq:bZ bd 160 2=some (2,1):=by kernel_rfl
def od:bZ bd 160 3=some (3,1):=by kernel_rfl
def qR:bZ bd 160 4=some (4,4):=by kernel_rfl
def Iv:bZ bd 168 0=some (0,1):=by kernel_rfl
def Dz:bZ bd 168 1=some (1,1):=by kernel_rfl
def tS:bZ bd 168 2=some (2,1):=by kernel_rfl
def iI:bZ bd 168 3=some (3,12):=by kernel_rfl
def kh:bZ bd 168 4=some (15,1):=by kernel_rfl
def BI:bZ bd 168 5=some (16,1):=by kernel_rfl
def gN:bZ bd 168 6=some (17,1):=by kernel_rfl
def xc:bZ bd 181 0=some (0,1):=by kernel_rfl
def xb:bZ bd 181 1=some (1,1):=by kernel_rfl
def pp:bZ bd 183 0=some (0,2):=by kernel_rfl
def Dy:bZ bd 183 1=some (2,1):=by kernel_rfl
def qQ:bZ bd 250 0=some (0,1):=by kernel_rfl
def TX:bZ bd 250 1=some (1,1):=by kernel_rfl
def BH:bZ bd 250 2=some (2,1):=by kernel_rfl
def Xc:jt bd 24=some [(0,1)]:=by kernel_rfl
def ab4:jt bd 29=some [(0,1),(1,1),(2,1)]:=by kernel_rfl
def ab3:jt bd 31=some [(0,1),(1,1),(2,1),(3,1),(4,3)]:=by kernel_rfl
def Rw:jt bd 34=some [(0,1),(1,1),(2,1),(3,1),(4,1),(5,1),(6,1),(7,7),(14,1)]:=by kernel_rfl
def ZJ:jt bd 60=some [(0,1)]:=by kernel_rfl
def ZI:jt bd 71=some [(0,1),(1,1),(2,1),(3,1)]:=by kernel_rfl
def ab2:jt bd 84=some [(0,1)]:=by kernel_rfl
def Xb:jt bd 89=some [(0,1),(1,1),(2,1),(3,1),(4,1),(5,1),(6,1),(7,1),(8,1),(9,1),(10,1),(11,1)]:=by kernel_rfl
def ZH:jt bd 93=some [(0,1)]:=by kernel_rfl
def G9:jt bd 104=some [(0,1),(1,1),(2,1),(3,1)]:=by kernel_rfl
def ZP:jt bd 113=some [(0,1),(1,1)]:=by kernel_rfl
def ZO:jt bd 115=some [(0,1),(1,1)]:=by kernel_rfl
def ZN:jt bd 146=some [(0,1),(1,1),(2,1)]:=by kernel_rfl
def Rx:jt bd 160=some [(0,1),(1,1),(2,1),(3,1),(4,4)]:=by kernel_rfl
def ZM:jt bd 168=some [(0,1),(1,1),(2,1),(3,12),(15,1),(16,1),(17,1)]:=by kernel_rfl
def ZL:jt bd 183=some [(0,2),(2,1)]:=by kernel_rfl
def ZK:jt bd 250=some [(0,1),(1,1),(2,1)]:=by kernel_rfl
def acS:ah bd 10=true:=by kernel_rfl
def acR:ah bd 12=true:=by kernel_rfl
def Va:ah bd 14=true:=by kernel_rfl
def abf:ah bd 17=true:=by kernel_rfl
def acQ:ah bd 19=true:=by kernel_rfl
def acP:ah bd 20=true:=by kernel_rfl
def acO:ah bd 21=true:=by kernel_rfl
def acN:ah bd 22=true:=by kernel_rfl
def acM:ah bd 23=true:=by kernel_rfl
def acL:ah bd 24=true:=by kernel_rfl
def acK:ah bd 27=true:=by kernel_rfl
def acJ:ah bd 29=true:=by kernel_rfl
def acI:ah bd 30=true:=by kernel_rfl
def acH:ah bd 31=true:=by kernel_rfl
def acG:ah bd 32=true:=by kernel_rfl
def aac:ah bd 35=true:=by kernel_rfl
def aab:ah bd 36=true:=by kernel_rfl
def acF:ah bd 39=true:=by kernel_rfl
def Yu:ah bd 40=true:=by kernel_rfl
def aaa:ah bd 41=true:=by kernel_rfl
def acE:ah bd 42=true:=by kernel_rfl
def acD:ah bd 43=true:=by kernel_rfl
def acC:ah bd 44=true:=by kernel_rfl
def acB:ah bd 45=true:=by kernel_rfl
def Yt:ah bd 46=true:=by kernel_rfl
def acA:ah bd 47=true:=by kernel_rfl
def Ys:ah bd 48=true:=by kernel_rfl
def acz:ah bd 49=true:=by kernel_rfl
def acy:ah bd 54=true:=by kernel_rfl
def acx:ah bd 55=true:=by kernel_rfl
def acw:ah bd 56=true:=by kernel_rfl
def acv:ah bd 57=true:=by kernel_rfl
def acu:ah bd 58=true:=by kernel_rfl
def xG:ah bd 59=true:=by kernel_rfl
def act:ah bd 60=true:=by kernel_rfl
def U9:ah bd 61=true:=by kernel_rfl
def Z9:ah bd 62=true:=by kernel_rfl
def acs:ah bd 63=true:=by kernel_rfl
def Z8:ah bd 64=true:=by kernel_rfl
def acr:ah bd 65=true:=by kernel_rfl
def Yr:ah bd 66=true:=by kernel_rfl
def acq:ah bd 67=true:=by kernel_rfl
def acp:ah bd 68=true:=by kernel_rfl
def Yq:ah bd 69=true:=by kernel_rfl
def aco:ah bd 70=true:=by kernel_rfl
def acn:ah bd 71=true:=by kernel_rfl
def acm:ah bd 72=true:=by kernel_rfl
def acl:ah bd 73=true:=by kernel_rfl
def ack:ah bd 74=true:=by kernel_rfl
def Yp:ah bd 80=true:=by kernel_rfl
def acj:ah bd 81=true:=by kernel_rfl
def aci:ah bd 82=true:=by kernel_rfl
def Yo:ah bd 83=true:=by kernel_rfl
def Z7:ah bd 84=true:=by kernel_rfl
def ach:ah bd 85=true:=by kernel_rfl
def acg:ah bd 86=true:=by kernel_rfl
def Yn:ah bd 87=true:=by kernel_rfl
def acf:ah bd 88=true:=by kernel_rfl
def ace:ah bd 89=true:=by kernel_rfl
def Ym:ah bd 90=true:=by kernel_rfl
def Se:ah bd 91=true:=by kernel_rfl
def acd:ah bd 92=true:=by kernel_rfl
def acc:ah bd 93=true:=by kernel_rfl
def Yl:ah bd 94=true:=by kernel_rfl
def acb:ah bd 95=true:=by kernel_rfl
def aca:ah bd 96=true:=by kernel_rfl
def Z6:ah bd 97=true:=by kernel_rfl
def ab9:ah bd 98=true:=by kernel_rfl
def yH:ah bd 99=true:=by kernel_rfl
def abO:ah bd 100=true:=by kernel_rfl
def C9:ah bd 101=true:=by kernel_rfl
def KI:ah bd 102=true:=by kernel_rfl
def NX:ah bd 103=true:=by kernel_rfl
def abN:ah bd 104=true:=by kernel_rfl
def V4:ah bd 106=true:=by kernel_rfl
def abM:ah bd 112=true:=by kernel_rfl
def abL:ah bd 113=true:=by kernel_rfl
def abK:ah bd 114=true:=by kernel_rfl
def abJ:ah bd 115=true:=by kernel_rfl
def Hm:ah bd 116=true:=by kernel_rfl
def V3:ah bd 117=true:=by kernel_rfl
def abI:ah bd 118=true:=by kernel_rfl
def abH:ah bd 119=true:=by kernel_rfl
def abG:ah bd 123=true:=by kernel_rfl
def abF:ah bd 124=true:=by kernel_rfl
def abE:ah bd 126=true:=by kernel_rfl
def abD:ah bd 127=true:=by kernel_rfl
def Sm:ah bd 128=true:=by kernel_rfl
def abC:ah bd 129=true:=by kernel_rfl
def NW:ah bd 130=true:=by kernel_rfl
def abB:ah bd 131=true:=by kernel_rfl
def NV:ah bd 132=true:=by kernel_rfl
def abA:ah bd 133=true:=by kernel_rfl
def abz:ah bd 134=true:=by kernel_rfl
def Sl:ah bd 135=true:=by kernel_rfl
def KH:ah bd 136=true:=by kernel_rfl
def NU:ah bd 137=true:=by kernel_rfl
def aby:ah bd 138=true:=by kernel_rfl
def abx:ah bd 139=true:=by kernel_rfl
def abw:ah bd 140=true:=by kernel_rfl
def KG:ah bd 141=true:=by kernel_rfl
def Sk:ah bd 142=true:=by kernel_rfl
def abv:ah bd 143=true:=by kernel_rfl
def abu:ah bd 144=true:=by kernel_rfl
def Sj:ah bd 145=true:=by kernel_rfl
def abt:ah bd 147=true:=by kernel_rfl
def abs:ah bd 148=true:=by kernel_rfl
def abr:ah bd 154=true:=by kernel_rfl
def abq:ah bd 155=true:=by kernel_rfl
def abp:ah bd 156=true:=by kernel_rfl
def abo:ah bd 157=true:=by kernel_rfl
def abn:ah bd 158=true:=by kernel_rfl
def V2:ah bd 159=true:=by kernel_rfl
def abm:ah bd 160=true:=by kernel_rfl
def Si:ah bd 162=true:=by kernel_rfl
def abl:ah bd 163=true:=by kernel_rfl
def abk:ah bd 164=true:=by kernel_rfl
def abj:ah bd 165=true:=by kernel_rfl
def abi:ah bd 166=true:=by kernel_rfl
def V1:ah bd 167=true:=by kernel_rfl
def abh:ah bd 168=true:=by kernel_rfl
def abg:ah bd 169=true:=by kernel_rfl
def abe:ah bd 170=true:=by kernel_rfl
def abd:ah bd 171=true:=by kernel_rfl
def abc:ah bd 172=true:=by kernel_rfl
def abb:ah bd 173=true:=by kernel_rfl
def aba:ah bd 174=true:=by kernel_rfl
def aa9:ah bd 175=true:=by kernel_rfl
def aa8:ah bd 176=true:=by kernel_rfl
def V0:ah bd 177=true:=by kernel_rfl
def VZ:ah bd 178=true:=by kernel_rfl
def NT:ah bd 179=true:=by kernel_rfl
def aa7:ah bd 180=true:=by kernel_rfl
def NR:ah bd 181=true:=by kernel_rfl
def aa6:ah bd 182=true:=by kernel_rfl
def NQ:ah bd 183=true:=by kernel_rfl
def aa5:ah bd 184=true:=by kernel_rfl
def aa4:ah bd 185=true:=by kernel_rfl
def aa3:ah bd 186=true:=by kernel_rfl
def aa2:ah bd 187=true:=by kernel_rfl
def aa1:ah bd 188=true:=by kernel_rfl
def yI:ah bd 189=true:=by kernel_rfl
def aa0:ah bd 190=true:=by kernel_rfl
def VY:ah bd 193=true:=by kernel_rfl
def aaZ:ah bd 197=true:=by kernel_rfl
def aaY:ah bd 198=true:=by kernel_rfl
def aaX:ah bd 199=true:=by kernel_rfl
def aaW:ah bd 200=true:=by kernel_rfl
def aaV:ah bd 202=true:=by kernel_rfl
def aaU:ah bd 203=true:=by kernel_rfl
def aaT:ah bd 204=true:=by kernel_rfl
def VX:ah bd 205=true:=by kernel_rfl
def NP:ah bd 206=true:=by kernel_rfl
def aaS:ah bd 207=true:=by kernel_rfl
def aaR:ah bd 208=true:=by kernel_rfl
def aaQ:ah bd 209=true:=by kernel_rfl
def BQ:ah bd 210=true:=by kernel_rfl
def VW:ah bd 211=true:=by kernel_rfl
def aaP:ah bd 212=true:=by kernel_rfl
def Sh:ah bd 213=true:=by kernel_rfl
def VV:ah bd 214=true:=by kernel_rfl
def aaO:ah bd 215=true:=by kernel_rfl
def aaN:ah bd 216=true:=by kernel_rfl
def aaM:ah bd 217=true:=by kernel_rfl
def aaL:ah bd 218=true:=by kernel_rfl
def aaK:ah bd 219=true:=by kernel_rfl
def Sg:ah bd 220=true:=by kernel_rfl
def VU:ah bd 221=true:=by kernel_rfl
def C8:ah bd 222=true:=by kernel_rfl
def aaJ:ah bd 225=true:=by kernel_rfl
def aaI:ah bd 227=true:=by kernel_rfl
def aaH:ah bd 228=true:=by kernel_rfl
def aaG:ah bd 229=true:=by kernel_rfl
def aaF:ah bd 230=true:=by kernel_rfl
def aaE:ah bd 231=true:=by kernel_rfl
def aaD:ah bd 232=true:=by kernel_rfl
def VT:ah bd 233=true:=by kernel_rfl
def aaC:ah bd 234=true:=by kernel_rfl
def aaB:ah bd 235=true:=by kernel_rfl
def aaA:ah bd 236=true:=by kernel_rfl
def aaz:ah bd 237=true:=by kernel_rfl
def aay:ah bd 238=true:=by kernel_rfl
def aax:ah bd 239=true:=by kernel_rfl
def aaw:ah bd 240=true:=by kernel_rfl
def aav:ah bd 241=true:=by kernel_rfl
def aau:ah bd 242=true:=by kernel_rfl
def VS:ah bd 243=true:=by kernel_rfl
def aat:ah bd 245=true:=by kernel_rfl
def aar:ah bd 247=true:=by kernel_rfl
def aaq:ah bd 248=true:=by kernel_rfl
def aap:ah bd 249=true:=by kernel_rfl
def aao:ah bd 250=true:=by kernel_rfl
def aan:ah bd 251=true:=by kernel_rfl
def aam:ah bd 252=true:=by kernel_rfl
def aal:ah bd 253=true:=by kernel_rfl
def VR:ah bd 254=true:=by kernel_rfl
def Sf:ah bd 255=true:=by kernel_rfl
def NO:ah bd 256=true:=by kernel_rfl
def aak:ah bd 257=true:=by kernel_rfl
def aaj:ah bd 258=true:=by kernel_rfl
def aai:ah bd 259=true:=by kernel_rfl
def aah:ah bd 260=true:=by kernel_rfl
def aag:ah bd 263=true:=by kernel_rfl
def aaf:ah bd 264=true:=by kernel_rfl
def aae:ah bd 265=true:=by kernel_rfl
def aad:ah bd 277=true:=by kernel_rfl
def YP:ZV bd 132 (.nilFunc):=(show(Tryz.prog.info? 132).bind (fun i=>i.zero)=some (.nilFunc) by kernel_rfl)
def YO:ZV bd 172 (.nilFunc):=(show(Tryz.prog.info? 172).bind (fun i=>i.zero)=some (.nilFunc) by kernel_rfl)
def ab6:KY bd 62 (o7 (rI .i64) 6):=KY.of (by kernel_rfl) (li (NK (n:=1) Tryz.underlying62 bB rfl rfl (s5 (n:=0) iL)) 18)
def R5:mn bd 104 bF 2:=Ay (n:=1) (fs:=[(3,0,false),(2,1,false),(26,2,false),(9,3,false)]) (by kernel_rfl) (by kernel_rfl) rfl (Hr.cons bB rfl rfl js (li (s5 (n:=0) iL) 0) (Hr.cons Jr rfl rfl kZ (li (s5 (n:=0) DH) 0) (Hr.cons qf rfl rfl sL (li (s5 (n:=0) vF) 0) (Hr.cons Ow rfl rfl lZ (li (U4 (n:=0) Df) 0) Hr.nil)))) (fun x y=>by cases x;cases y;simp [Bool.decide_and])
def Fa:KY bd 104 bF:=KY.of (by kernel_rfl) (li R5 18)
def Yj:mn bd 113 gy 2:=Ay (n:=1) (fs:=[(3,0,false),(4,1,false)]) (by kernel_rfl) (by kernel_rfl) rfl (Hr.cons bB rfl rfl uI (li (s5 (n:=0) iL) 0) (Hr.cons zF rfl rfl EX (li (R4 (n:=0) Gk) 0) Hr.nil)) (fun x y=>by cases x;cases y;simp [Bool.decide_and])
def VP:KY bd 113 gy:=KY.of (by kernel_rfl) (li Yj 18)
def Yi:mn bd 160 bt 3:=Ay (n:=2) (fs:=[(3,0,false),(3,1,false),(3,2,false),(3,3,false),(104,4,false)]) (by kernel_rfl) (by kernel_rfl) rfl (Hr.cons bB rfl rfl ef (li (s5 (n:=0) iL) 1) (Hr.cons bB rfl rfl pY (li (s5 (n:=0) iL) 1) (Hr.cons bB rfl rfl oa (li (s5 (n:=0) iL) 1) (Hr.cons bB rfl rfl iR (li (s5 (n:=0) iL) 1) (Hr.cons dh rfl rfl k7 (li R5 0) Hr.nil))))) (fun x y=>by cases x;cases y;simp [Bool.decide_and])
def VO:KY bd 160 bt:=KY.of (by kernel_rfl) (li Yi 17)
def VM:KY bd 209 (o7 (rI .i64) 2):=KY.of (by kernel_rfl) (li (NK (n:=1) DM bB rfl rfl (s5 (n:=0) iL)) 18)

end Go.Proofs.YtdohlidddcgfjaaGreat

