import Derived.Test.YtdohlidddcgfjaaGreatFgD
import Derived.Test.YtdohlidddcgfjaaGreatProg
import Derived.Test.YtdohlidddcgfjaaGreatFgS
import Derived.Test.YtdohlidddcgfjaaGreatFgV4
import Derived.KernelRfl
set_option linter.all false
namespace Go.Proofs.YtdohlidddcgfjaaGreat
open Go
noncomputable abbrev bt:=Tryz.prog
def eh:= @Tryz.underlying69
def gV:= @Tryz.underlying37
def jm:= @Tryz.underlying3
def ln:= @Tryz.underlying5
def mo:= @Tryz.underlying82
def mn:= @Tryz.underlying68
def ny:= @Tryz.underlying85
def tZ:= @Tryz.underlying27
def uM:= @Tryz.underlying87
def uL:= @Tryz.underlying86
def vL:= @Tryz.underlying22
def wH:= @Tryz.underlying102
def wG:= @Tryz.underlying26
def wF:= @Tryz.underlying74
def F4:= @Tryz.underlying169
def KK:= @Tryz.underlying4
def Dz:= @Tryz.underlying152
def Dy:= @Tryz.underlying9
def Cm:= @Tryz.underlying2
def FA:= @Tryz.underlying25
def GR:= @Tryz.underlying186
def GQ:= @Tryz.underlying209
def mixed:Tryz.prog.follows .mixedOrders=true:=by kernel_rfl
def M2:TI bt 2 1 8 false [.int .i64 0]:=⟨by kernel_rfl,by kernel_rfl⟩
def bH:TI bt 3 1 8 false [.int .i64 0]:=⟨by kernel_rfl,by kernel_rfl⟩
def ua:TI bt 4 1 1 false [.bool false]:=⟨by kernel_rfl,by kernel_rfl⟩
def iV:TI bt 5 1 1 false [.int .u8 0]:=⟨by kernel_rfl,by kernel_rfl⟩
def Vk:TI bt 9 1 16 false [.string ⟨#[]⟩]:=⟨by kernel_rfl,by kernel_rfl⟩
def ze:TI bt 22 1 24 false [.slice none 0 0]:=⟨by kernel_rfl,by kernel_rfl⟩
def AF:TI bt 24 1 24 true [.slice none 0 0]:=⟨by kernel_rfl,by kernel_rfl⟩
def sF:TI bt 25 1 4 false [.int .u32 0]:=⟨by kernel_rfl,by kernel_rfl⟩
def kG:TI bt 26 1 8 false [.int .u64 0]:=⟨by kernel_rfl,by kernel_rfl⟩
def DD:TI bt 27 1 24 false [.slice none 0 0]:=⟨by kernel_rfl,by kernel_rfl⟩
def XS:TI bt 29 3 40 true [.slice none 0 0,.bool false,.int .u64 0]:=⟨by kernel_rfl,by kernel_rfl⟩
def mX:TI bt 31 7 72 true [.int .i64 0,.int .u32 0,.int .u64 0,.int .u64 0,.slice none 0 0,.bool false,.int .u64 0]:=⟨by kernel_rfl,by kernel_rfl⟩
def wa:TI bt 32 1 8 false [.int .i64 0]:=⟨by kernel_rfl,by kernel_rfl⟩
def fj:TI bt 34 15 152 true [.int .i64 0,.int .i64 0,.int .i64 0,.int .i64 0,.int .i64 0,.int .i64 0,.slice none 0 0,.int .i64 0,.int .u32 0,.int .u64 0,.int .u64 0,.slice none 0 0,.bool false,.int .u64 0,.int .i64 0]:=⟨by kernel_rfl,by kernel_rfl⟩
def wN:TI bt 37 1 24 false [.slice none 0 0]:=⟨by kernel_rfl,by kernel_rfl⟩
def afJ:TI bt 60 1 24 true [.slice none 0 0]:=⟨by kernel_rfl,by kernel_rfl⟩
def ada:TI bt 62 6 48 true (List.replicate 6 (.int .i64 0)):=⟨by kernel_rfl,by kernel_rfl⟩
def sE:TI bt 68 1 24 false [.slice none 0 0]:=⟨by kernel_rfl,by kernel_rfl⟩
def cV:TI bt 69 1 24 false [.slice none 0 0]:=⟨by kernel_rfl,by kernel_rfl⟩
def nr:TI bt 71 4 64 true [.slice none 0 0,.int .i64 0,.int .i64 0,.slice none 0 0]:=⟨by kernel_rfl,by kernel_rfl⟩
def XR:TI bt 74 1 24 false [.slice none 0 0]:=⟨by kernel_rfl,by kernel_rfl⟩
def v7:TI bt 77 1 8 false [.pointer none]:=⟨by kernel_rfl,by kernel_rfl⟩
def pO:TI bt 82 1 24 false [.slice none 0 0]:=⟨by kernel_rfl,by kernel_rfl⟩
def hY:TI bt 84 1 24 true [.slice none 0 0]:=⟨by kernel_rfl,by kernel_rfl⟩
def qT:TI bt 85 1 24 false [.slice none 0 0]:=⟨by kernel_rfl,by kernel_rfl⟩
def Cf:TI bt 86 1 24 false [.slice none 0 0]:=⟨by kernel_rfl,by kernel_rfl⟩
def wM:TI bt 87 1 24 false [.slice none 0 0]:=⟨by kernel_rfl,by kernel_rfl⟩
def dL:TI bt 89 12 192 true [.int .i64 0,.int .i64 0,.int .i64 0,.int .i64 0,.slice none 0 0,.bool false,.slice none 0 0,.slice none 0 0,.slice none 0 0,.slice none 0 0,.slice none 0 0,.int .i64 0]:=⟨by kernel_rfl,by kernel_rfl⟩
def IY:TI bt 93 1 24 true [.slice none 0 0]:=⟨by kernel_rfl,by kernel_rfl⟩
def afI:TI bt 98 3 40 true [.slice none 0 0,.int .i64 0,.bool false]:=⟨by kernel_rfl,by kernel_rfl⟩
def xw:TI bt 102 1 24 false [.slice none 0 0]:=⟨by kernel_rfl,by kernel_rfl⟩
def cb:TI bt 104 4 40 true [.int .i64 0,.int .i64 0,.int .u64 0,.string ⟨#[]⟩]:=⟨by kernel_rfl,by kernel_rfl⟩
def qY:TI bt 113 2 16 true [.int .i64 0,.bool false]:=⟨by kernel_rfl,by kernel_rfl⟩
def jt:TI bt 115 2 32 true [.int .i64 0,.slice none 0 0]:=⟨by kernel_rfl,by kernel_rfl⟩
def Vm:TI bt 120 1 8 false [.nilFunc]:=⟨by kernel_rfl,by kernel_rfl⟩
def me:TI bt 143 1 8 false [.pointer none]:=⟨by kernel_rfl,by kernel_rfl⟩
def adf:TI bt 146 3 40 true [.pointer none,.slice none 0 0,.bool false]:=⟨by kernel_rfl,by kernel_rfl⟩
def JN:TI bt 152 256 1024 true (List.replicate 256 (.int .u32 0)):=⟨by kernel_rfl,by kernel_rfl⟩
def fF:TI bt 160 8 72 true [.int .i64 0,.int .i64 0,.int .i64 0,.int .i64 0,.int .i64 0,.int .i64 0,.int .u64 0,.string ⟨#[]⟩]:=⟨by kernel_rfl,by kernel_rfl⟩
def G8:TI bt 166 1 8 false [.pointer none]:=⟨by kernel_rfl,by kernel_rfl⟩
def ade:TI bt 168 18 336 true [.slice none 0 0,.slice none 0 0,.slice none 0 0,.int .i64 0,.int .i64 0,.int .i64 0,.int .i64 0,.slice none 0 0,.bool false,.slice none 0 0,.slice none 0 0,.slice none 0 0,.slice none 0 0,.slice none 0 0,.int .i64 0,.slice none 0 0,.slice none 0 0,.slice none 0 0]:=⟨by kernel_rfl,by kernel_rfl⟩
def adc:TI bt 183 3 40 true [.int .i64 0,.int .i64 0,.slice none 0 0]:=⟨by kernel_rfl,by kernel_rfl⟩
def JM:TI bt 186 1 24 false [.slice none 0 0]:=⟨by kernel_rfl,by kernel_rfl⟩
def Cp:TI bt 209 2 16 true (List.replicate 2 (.int .i64 0)):=⟨by kernel_rfl,by kernel_rfl⟩
def adb:TI bt 250 3 24 true [.pointer none,.int .i64 0,.bool false]:=⟨by kernel_rfl,by kernel_rfl⟩
def Vl:TI bt 266 5 40 true (List.replicate 5 (.int .i64 0)):=⟨by kernel_rfl,by kernel_rfl⟩
def qF:cq bt 24 0=some (0,1):=by kernel_rfl
def uz:cq bt 29 0=some (0,1):=by kernel_rfl
def tw:cq bt 29 1=some (1,1):=by kernel_rfl
def uy:cq bt 29 2=some (2,1):=by kernel_rfl
def Bi:cq bt 31 0=some (0,1):=by kernel_rfl
def zO:cq bt 31 1=some (1,1):=by kernel_rfl
def tv:cq bt 31 2=some (2,1):=by kernel_rfl
def u0:cq bt 31 3=some (3,1):=by kernel_rfl
def jQ:cq bt 31 4=some (4,3):=by kernel_rfl
def rG:cq bt 34 0=some (0,1):=by kernel_rfl
def vT:cq bt 34 1=some (1,1):=by kernel_rfl
def vS:cq bt 34 2=some (2,1):=by kernel_rfl
def uZ:cq bt 34 3=some (3,1):=by kernel_rfl
def qE:cq bt 34 4=some (4,1):=by kernel_rfl
def tu:cq bt 34 5=some (5,1):=by kernel_rfl
def ux:cq bt 34 6=some (6,1):=by kernel_rfl
def rF:cq bt 34 7=some (7,7):=by kernel_rfl
def rE:cq bt 34 8=some (14,1):=by kernel_rfl
def Qv:cq bt 60 0=some (0,1):=by kernel_rfl
def vR:cq bt 71 0=some (0,1):=by kernel_rfl
def yv:cq bt 71 1=some (1,1):=by kernel_rfl
def yu:cq bt 71 2=some (2,1):=by kernel_rfl
def vQ:cq bt 71 3=some (3,1):=by kernel_rfl
def ia:cq bt 84 0=some (0,1):=by kernel_rfl
def gq:cq bt 89 0=some (0,1):=by kernel_rfl
def jP:cq bt 89 1=some (1,1):=by kernel_rfl
def kV:cq bt 89 2=some (2,1):=by kernel_rfl
def rD:cq bt 89 3=some (3,1):=by kernel_rfl
def kU:cq bt 89 4=some (4,1):=by kernel_rfl
def zL:cq bt 89 5=some (5,1):=by kernel_rfl
def sN:cq bt 89 6=some (6,1):=by kernel_rfl
def kp:cq bt 89 7=some (7,1):=by kernel_rfl
def iS:cq bt 89 8=some (8,1):=by kernel_rfl
def sM:cq bt 89 9=some (9,1):=by kernel_rfl
def ky:cq bt 89 10=some (10,1):=by kernel_rfl
def sk:cq bt 89 11=some (11,1):=by kernel_rfl
def qC:cq bt 93 0=some (0,1):=by kernel_rfl
def Id:cq bt 98 0=some (0,1):=by kernel_rfl
def xc:cq bt 98 1=some (1,1):=by kernel_rfl
def oq:cq bt 98 2=some (2,1):=by kernel_rfl
def oC:cq bt 104 0=some (0,1):=by kernel_rfl
def oB:cq bt 104 1=some (1,1):=by kernel_rfl
def zS:cq bt 104 2=some (2,1):=by kernel_rfl
def vl:cq bt 104 3=some (3,1):=by kernel_rfl
def Et:cq bt 113 0=some (0,1):=by kernel_rfl
def YH:cq bt 113 1=some (1,1):=by kernel_rfl
def kz:cq bt 115 0=some (0,1):=by kernel_rfl
def sm:cq bt 115 1=some (1,1):=by kernel_rfl
def oA:cq bt 146 0=some (0,1):=by kernel_rfl
def Sa:cq bt 146 1=some (1,1):=by kernel_rfl
def xX:cq bt 146 2=some (2,1):=by kernel_rfl
def jj:cq bt 160 0=some (0,1):=by kernel_rfl
def qP:cq bt 160 1=some (1,1):=by kernel_rfl
def pG:cq bt 160 2=some (2,1):=by kernel_rfl
def pF:cq bt 160 3=some (3,1):=by kernel_rfl
def uA:cq bt 160 4=some (4,4):=by kernel_rfl
def LP:cq bt 168 0=some (0,1):=by kernel_rfl
def GG:cq bt 168 1=some (1,1):=by kernel_rfl
def wr:cq bt 168 2=some (2,1):=by kernel_rfl
def js:cq bt 168 3=some (3,12):=by kernel_rfl
def li:cq bt 168 4=some (15,1):=by kernel_rfl
def Es:cq bt 168 5=some (16,1):=by kernel_rfl
def iE:cq bt 168 6=some (17,1):=by kernel_rfl
def zR:cq bt 181 0=some (0,1):=by kernel_rfl
def zQ:cq bt 181 1=some (1,1):=by kernel_rfl
def qO:cq bt 183 0=some (0,2):=by kernel_rfl
def GF:cq bt 183 1=some (2,1):=by kernel_rfl
def nW:cq bt 250 0=some (0,1):=by kernel_rfl
def R9:cq bt 250 1=some (1,1):=by kernel_rfl
def BY:cq bt 250 2=some (2,1):=by kernel_rfl
def ady:jG bt 24=some [(0,1)]:=by kernel_rfl
def afV:jG bt 29=some [(0,1),(1,1),(2,1)]:=by kernel_rfl
def Yy:jG bt 31=some [(0,1),(1,1),(2,1),(3,1),(4,3)]:=by kernel_rfl
def Gi:jG bt 34=some [(0,1),(1,1),(2,1),(3,1),(4,1),(5,1),(6,1),(7,7),(14,1)]:=by kernel_rfl
def afU:jG bt 60=some [(0,1)]:=by kernel_rfl
def adw:jG bt 71=some [(0,1),(1,1),(2,1),(3,1)]:=by kernel_rfl
def afT:jG bt 84=some [(0,1)]:=by kernel_rfl
def Yx:jG bt 89=some [(0,1),(1,1),(2,1),(3,1),(4,1),(5,1),(6,1),(7,1),(8,1),(9,1),(10,1),(11,1)]:=by kernel_rfl
def adv:jG bt 93=some [(0,1)]:=by kernel_rfl
def afS:jG bt 98=some [(0,1),(1,1),(2,1)]:=by kernel_rfl
def vF:jG bt 104=some [(0,1),(1,1),(2,1),(3,1)]:=by kernel_rfl
def aat:jG bt 113=some [(0,1),(1,1)]:=by kernel_rfl
def aar:jG bt 115=some [(0,1),(1,1)]:=by kernel_rfl
def adB:jG bt 146=some [(0,1),(1,1),(2,1)]:=by kernel_rfl
def R6:jG bt 160=some [(0,1),(1,1),(2,1),(3,1),(4,4)]:=by kernel_rfl
def adA:jG bt 168=some [(0,1),(1,1),(2,1),(3,12),(15,1),(16,1),(17,1)]:=by kernel_rfl
def adz:jG bt 183=some [(0,2),(2,1)]:=by kernel_rfl
def adx:jG bt 250=some [(0,1),(1,1),(2,1)]:=by kernel_rfl
def agT:aj bt 10=true:=by kernel_rfl
def agS:aj bt 12=true:=by kernel_rfl
def Z7:aj bt 14=true:=by kernel_rfl
def Us:aj bt 15=true:=by kernel_rfl
def agQ:aj bt 16=true:=by kernel_rfl
def acX:aj bt 17=true:=by kernel_rfl
def aeU:aj bt 18=true:=by kernel_rfl
def agP:aj bt 21=true:=by kernel_rfl
def agO:aj bt 23=true:=by kernel_rfl
def agN:aj bt 24=true:=by kernel_rfl
def agM:aj bt 25=true:=by kernel_rfl
def agL:aj bt 26=true:=by kernel_rfl
def adY:aj bt 27=true:=by kernel_rfl
def adW:aj bt 29=true:=by kernel_rfl
def agK:aj bt 30=true:=by kernel_rfl
def agJ:aj bt 31=true:=by kernel_rfl
def agI:aj bt 32=true:=by kernel_rfl
def agH:aj bt 33=true:=by kernel_rfl
def adV:aj bt 34=true:=by kernel_rfl
def OJ:aj bt 35=true:=by kernel_rfl
def Z6:aj bt 36=true:=by kernel_rfl
def agG:aj bt 37=true:=by kernel_rfl
def Q3:aj bt 38=true:=by kernel_rfl
def agF:aj bt 40=true:=by kernel_rfl
def agE:aj bt 41=true:=by kernel_rfl
def agD:aj bt 42=true:=by kernel_rfl
def agA:aj bt 43=true:=by kernel_rfl
def agz:aj bt 44=true:=by kernel_rfl
def agy:aj bt 45=true:=by kernel_rfl
def acW:aj bt 46=true:=by kernel_rfl
def agx:aj bt 47=true:=by kernel_rfl
def acV:aj bt 48=true:=by kernel_rfl
def agw:aj bt 49=true:=by kernel_rfl
def agv:aj bt 50=true:=by kernel_rfl
def agu:aj bt 51=true:=by kernel_rfl
def agt:aj bt 52=true:=by kernel_rfl
def ags:aj bt 53=true:=by kernel_rfl
def agr:aj bt 54=true:=by kernel_rfl
def adU:aj bt 55=true:=by kernel_rfl
def agq:aj bt 56=true:=by kernel_rfl
def agp:aj bt 57=true:=by kernel_rfl
def ago:aj bt 58=true:=by kernel_rfl
def acU:aj bt 59=true:=by kernel_rfl
def agn:aj bt 60=true:=by kernel_rfl
def agm:aj bt 61=true:=by kernel_rfl
def adT:aj bt 62=true:=by kernel_rfl
def agl:aj bt 63=true:=by kernel_rfl
def adS:aj bt 64=true:=by kernel_rfl
def agk:aj bt 65=true:=by kernel_rfl
def acT:aj bt 66=true:=by kernel_rfl
def agj:aj bt 67=true:=by kernel_rfl
def agi:aj bt 68=true:=by kernel_rfl
def acS:aj bt 69=true:=by kernel_rfl
def agh:aj bt 70=true:=by kernel_rfl
def agf:aj bt 71=true:=by kernel_rfl
def age:aj bt 72=true:=by kernel_rfl
def agd:aj bt 73=true:=by kernel_rfl
def agc:aj bt 74=true:=by kernel_rfl
def agb:aj bt 75=true:=by kernel_rfl
def aga:aj bt 76=true:=by kernel_rfl
def af9:aj bt 77=true:=by kernel_rfl
def af8:aj bt 78=true:=by kernel_rfl
def af7:aj bt 79=true:=by kernel_rfl
def af6:aj bt 81=true:=by kernel_rfl
def af5:aj bt 82=true:=by kernel_rfl
def acR:aj bt 83=true:=by kernel_rfl
def WX:aj bt 91=true:=by kernel_rfl
def af4:aj bt 92=true:=by kernel_rfl
def af3:aj bt 93=true:=by kernel_rfl
def acQ:aj bt 94=true:=by kernel_rfl
def af2:aj bt 95=true:=by kernel_rfl
def af1:aj bt 96=true:=by kernel_rfl
def adR:aj bt 97=true:=by kernel_rfl
def af0:aj bt 98=true:=by kernel_rfl
def wu:aj bt 99=true:=by kernel_rfl
def afA:aj bt 100=true:=by kernel_rfl
def Ez:aj bt 101=true:=by kernel_rfl
def Kx:aj bt 102=true:=by kernel_rfl
def SG:aj bt 103=true:=by kernel_rfl
def afz:aj bt 104=true:=by kernel_rfl
def aaT:aj bt 105=true:=by kernel_rfl
def SF:aj bt 106=true:=by kernel_rfl
def afy:aj bt 107=true:=by kernel_rfl
def sx:aj bt 108=true:=by kernel_rfl
def afx:aj bt 109=true:=by kernel_rfl
def aaS:aj bt 110=true:=by kernel_rfl
def SE:aj bt 111=true:=by kernel_rfl
def afw:aj bt 112=true:=by kernel_rfl
def afv:aj bt 113=true:=by kernel_rfl
def afu:aj bt 114=true:=by kernel_rfl
def aft:aj bt 115=true:=by kernel_rfl
def afs:aj bt 119=true:=by kernel_rfl
def afr:aj bt 120=true:=by kernel_rfl
def afq:aj bt 121=true:=by kernel_rfl
def afp:aj bt 122=true:=by kernel_rfl
def FX:aj bt 123=true:=by kernel_rfl
def aaR:aj bt 124=true:=by kernel_rfl
def afo:aj bt 125=true:=by kernel_rfl
def afn:aj bt 126=true:=by kernel_rfl
def afm:aj bt 127=true:=by kernel_rfl
def Xg:aj bt 128=true:=by kernel_rfl
def afl:aj bt 129=true:=by kernel_rfl
def aaQ:aj bt 131=true:=by kernel_rfl
def SD:aj bt 132=true:=by kernel_rfl
def afk:aj bt 133=true:=by kernel_rfl
def afj:aj bt 134=true:=by kernel_rfl
def Xf:aj bt 135=true:=by kernel_rfl
def Kw:aj bt 136=true:=by kernel_rfl
def SC:aj bt 137=true:=by kernel_rfl
def afi:aj bt 138=true:=by kernel_rfl
def afh:aj bt 139=true:=by kernel_rfl
def afg:aj bt 140=true:=by kernel_rfl
def Im:aj bt 141=true:=by kernel_rfl
def Xe:aj bt 142=true:=by kernel_rfl
def aff:aj bt 143=true:=by kernel_rfl
def Xd:aj bt 144=true:=by kernel_rfl
def Il:aj bt 145=true:=by kernel_rfl
def afe:aj bt 146=true:=by kernel_rfl
def aaP:aj bt 147=true:=by kernel_rfl
def aaO:aj bt 148=true:=by kernel_rfl
def FW:aj bt 149=true:=by kernel_rfl
def Xc:aj bt 150=true:=by kernel_rfl
def afd:aj bt 151=true:=by kernel_rfl
def aaN:aj bt 152=true:=by kernel_rfl
def afc:aj bt 153=true:=by kernel_rfl
def afb:aj bt 154=true:=by kernel_rfl
def afa:aj bt 155=true:=by kernel_rfl
def ae9:aj bt 156=true:=by kernel_rfl
def ae8:aj bt 161=true:=by kernel_rfl
def Xb:aj bt 162=true:=by kernel_rfl
def ae7:aj bt 163=true:=by kernel_rfl
def ae6:aj bt 164=true:=by kernel_rfl
def ae5:aj bt 165=true:=by kernel_rfl
def ae4:aj bt 166=true:=by kernel_rfl
def aaM:aj bt 167=true:=by kernel_rfl
def ae3:aj bt 168=true:=by kernel_rfl
def ae2:aj bt 169=true:=by kernel_rfl
def ae1:aj bt 170=true:=by kernel_rfl
def ae0:aj bt 171=true:=by kernel_rfl
def aeZ:aj bt 172=true:=by kernel_rfl
def aeY:aj bt 173=true:=by kernel_rfl
def aeX:aj bt 174=true:=by kernel_rfl
def aeW:aj bt 175=true:=by kernel_rfl
def aeV:aj bt 176=true:=by kernel_rfl
def aaL:aj bt 178=true:=by kernel_rfl
def SB:aj bt 179=true:=by kernel_rfl
def aeT:aj bt 180=true:=by kernel_rfl
def SA:aj bt 181=true:=by kernel_rfl
def aeS:aj bt 182=true:=by kernel_rfl
def Sy:aj bt 183=true:=by kernel_rfl
def aeR:aj bt 184=true:=by kernel_rfl
def aeQ:aj bt 185=true:=by kernel_rfl
def aeP:aj bt 186=true:=by kernel_rfl
def aeO:aj bt 187=true:=by kernel_rfl
def aeN:aj bt 188=true:=by kernel_rfl
def Bo:aj bt 189=true:=by kernel_rfl
def aaK:aj bt 190=true:=by kernel_rfl
def aeM:aj bt 191=true:=by kernel_rfl
def aeL:aj bt 192=true:=by kernel_rfl
def aaJ:aj bt 193=true:=by kernel_rfl
def Sx:aj bt 194=true:=by kernel_rfl
def aeK:aj bt 195=true:=by kernel_rfl
def aeJ:aj bt 196=true:=by kernel_rfl
def aeI:aj bt 197=true:=by kernel_rfl
def aeH:aj bt 198=true:=by kernel_rfl
def aeG:aj bt 201=true:=by kernel_rfl
def aeF:aj bt 202=true:=by kernel_rfl
def aeE:aj bt 203=true:=by kernel_rfl
def aeD:aj bt 204=true:=by kernel_rfl
def aaI:aj bt 205=true:=by kernel_rfl
def Sw:aj bt 206=true:=by kernel_rfl
def aeC:aj bt 207=true:=by kernel_rfl
def aeB:aj bt 208=true:=by kernel_rfl
def aeA:aj bt 209=true:=by kernel_rfl
def FV:aj bt 210=true:=by kernel_rfl
def aaH:aj bt 211=true:=by kernel_rfl
def aez:aj bt 212=true:=by kernel_rfl
def Xa:aj bt 213=true:=by kernel_rfl
def aaG:aj bt 214=true:=by kernel_rfl
def aey:aj bt 215=true:=by kernel_rfl
def aaF:aj bt 216=true:=by kernel_rfl
def aex:aj bt 217=true:=by kernel_rfl
def aew:aj bt 218=true:=by kernel_rfl
def aev:aj bt 219=true:=by kernel_rfl
def W0:aj bt 220=true:=by kernel_rfl
def aaE:aj bt 221=true:=by kernel_rfl
def CE:aj bt 222=true:=by kernel_rfl
def aeu:aj bt 223=true:=by kernel_rfl
def aet:aj bt 224=true:=by kernel_rfl
def aes:aj bt 225=true:=by kernel_rfl
def aaD:aj bt 226=true:=by kernel_rfl
def aaC:aj bt 227=true:=by kernel_rfl
def aer:aj bt 228=true:=by kernel_rfl
def aeq:aj bt 229=true:=by kernel_rfl
def aep:aj bt 230=true:=by kernel_rfl
def aeo:aj bt 231=true:=by kernel_rfl
def aen:aj bt 232=true:=by kernel_rfl
def aaB:aj bt 233=true:=by kernel_rfl
def aem:aj bt 234=true:=by kernel_rfl
def ael:aj bt 235=true:=by kernel_rfl
def aek:aj bt 236=true:=by kernel_rfl
def aej:aj bt 237=true:=by kernel_rfl
def aei:aj bt 238=true:=by kernel_rfl
def aeh:aj bt 239=true:=by kernel_rfl
def aeg:aj bt 240=true:=by kernel_rfl
def aef:aj bt 241=true:=by kernel_rfl
def aee:aj bt 242=true:=by kernel_rfl
def Sv:aj bt 243=true:=by kernel_rfl
def aed:aj bt 244=true:=by kernel_rfl
def aaA:aj bt 245=true:=by kernel_rfl
def WZ:aj bt 246=true:=by kernel_rfl
def aec:aj bt 247=true:=by kernel_rfl
def aeb:aj bt 248=true:=by kernel_rfl
def aea:aj bt 249=true:=by kernel_rfl
def ad9:aj bt 250=true:=by kernel_rfl
def ad8:aj bt 251=true:=by kernel_rfl
def ad7:aj bt 252=true:=by kernel_rfl
def ad6:aj bt 253=true:=by kernel_rfl
def aaz:aj bt 254=true:=by kernel_rfl
def WY:aj bt 255=true:=by kernel_rfl
def Su:aj bt 256=true:=by kernel_rfl
def ad5:aj bt 257=true:=by kernel_rfl
def ad4:aj bt 258=true:=by kernel_rfl
def ad3:aj bt 259=true:=by kernel_rfl
def ad2:aj bt 260=true:=by kernel_rfl
def ad1:aj bt 263=true:=by kernel_rfl
def ad0:aj bt 264=true:=by kernel_rfl
def adZ:aj bt 265=true:=by kernel_rfl
def adX:aj bt 277=true:=by kernel_rfl
def ac3:ZV bt 172 (.nilFunc):=(show(Tryz.prog.info? 172).bind (fun i=>i.zero)=some (.nilFunc) by kernel_rfl)
def afX:SR bt 62 (pP (rI .i64) 6):=SR.of (by kernel_rfl) (mj (Sn (n:=1) Tryz.underlying62 bH rfl rfl (vm (n:=0) jm)) 18)
def WO:nv bt 104 bh 2:=Dc (n:=1) (fs:=[(3,0,false),(2,1,false),(26,2,false),(9,3,false)]) (by kernel_rfl) (by kernel_rfl) rfl (KE.cons bH rfl rfl kS (mj (vm (n:=0) jm) 0) (KE.cons M2 rfl rfl pC (mj (vm (n:=0) Cm) 0) (KE.cons kG rfl rfl xb (mj (vm (n:=0) wG) 0) (KE.cons Vk rfl rfl ru (mj (Z2 (n:=0) Dy) 0) KE.nil)))) (fun x y=>by cases x;cases y;simp [Bool.decide_and])
def FP:SR bt 104 bh:=SR.of (by kernel_rfl) (mj WO 18)
def acP:nv bt 113 fI 2:=Dc (n:=1) (fs:=[(3,0,false),(4,1,false)]) (by kernel_rfl) (by kernel_rfl) rfl (KE.cons bH rfl rfl yS (mj (vm (n:=0) jm) 0) (KE.cons ua rfl rfl Oo (mj (WN (n:=0) KK) 0) KE.nil)) (fun x y=>by cases x;cases y;simp [Bool.decide_and])
def aax:SR bt 113 fI:=SR.of (by kernel_rfl) (mj acP 18)
def acO:nv bt 160 bG 3:=Dc (n:=2) (fs:=[(3,0,false),(3,1,false),(3,2,false),(3,3,false),(104,4,false)]) (by kernel_rfl) (by kernel_rfl) rfl (KE.cons bH rfl rfl eY (mj (vm (n:=0) jm) 1) (KE.cons bH rfl rfl rC (mj (vm (n:=0) jm) 1) (KE.cons bH rfl rfl pD (mj (vm (n:=0) jm) 1) (KE.cons bH rfl rfl j8 (mj (vm (n:=0) jm) 1) (KE.cons cb rfl rfl oo (mj WO 0) KE.nil))))) (fun x y=>by cases x;cases y;simp [Bool.decide_and])
def aaw:SR bt 160 bG:=SR.of (by kernel_rfl) (mj acO 17)
def aav:SR bt 209 (pP (rI .i64) 2):=SR.of (by kernel_rfl) (mj (Sn (n:=1) GQ bH rfl rfl (vm (n:=0) jm)) 18)
