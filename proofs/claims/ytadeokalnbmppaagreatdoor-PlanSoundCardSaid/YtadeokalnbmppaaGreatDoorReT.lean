import Derived.Test.YtadeokalnbmppaaGreatDoorReD
import Derived.Test.YtadeokalnbmppaaGreatDoorProg
import Derived.Test.YtadeokalnbmppaaGreatDoorReS
import Derived.Test.YtadeokalnbmppaaGreatDoorReV4
import Derived.Shelf.Strings.CaseAny
import Derived.KernelRfl
set_option linter.all false
namespace Go.Proofs.YtadeokalnbmppaaGreatDoor
open Go
noncomputable abbrev aL:=Tryz.prog
def dI:= @Tryz.underlying40
def kw:= @Tryz.underlying22
def ld:= @Tryz.underlying3
def n7:= @Tryz.underlying118
def oD:= @Tryz.underlying41
def oP:= @Tryz.underlying44
def pB:= @Tryz.underlying9
def pH:= @Tryz.underlying31
def qt:= @Tryz.underlying71
def s7:= @Tryz.underlying45
def yI:= @Tryz.underlying62
def Bt:= @Tryz.underlying46
def Bs:= @Tryz.underlying25
def Ea:= @Tryz.underlying119
def FV:= @Tryz.underlying146
def FU:= @Tryz.underlying126
def BK:= @Tryz.underlying85
def CQ:= @Tryz.underlying117
def CP:= @Tryz.underlying191
def QU:= @Tryz.underlying4
def LP:= @Tryz.underlying39
def mixed:Tryz.prog.follows .mixedOrders=true:=by kernel_rfl
def ti2:TI aL 2 1 8 false [.int .i64 0]:=⟨by kernel_rfl,by kernel_rfl⟩
def bN:TI aL 3 1 8 false [.int .i64 0]:=⟨by kernel_rfl,by kernel_rfl⟩
def I0:TI aL 4 1 1 false [.bool false]:=⟨by kernel_rfl,by kernel_rfl⟩
def OV:TI aL 9 1 16 false [.string ⟨#[]⟩]:=⟨by kernel_rfl,by kernel_rfl⟩
def o5:TI aL 22 1 24 false [.slice none 0 0]:=⟨by kernel_rfl,by kernel_rfl⟩
def t6:TI aL 24 1 24 true [.slice none 0 0]:=⟨by kernel_rfl,by kernel_rfl⟩
def GX:TI aL 25 1 24 false [.slice none 0 0]:=⟨by kernel_rfl,by kernel_rfl⟩
def Cb:TI aL 27 1 24 true [.slice none 0 0]:=⟨by kernel_rfl,by kernel_rfl⟩
def qY:TI aL 31 1 24 false [.slice none 0 0]:=⟨by kernel_rfl,by kernel_rfl⟩
def qG:TI aL 33 1 24 true [.slice none 0 0]:=⟨by kernel_rfl,by kernel_rfl⟩
def bK:TI aL 40 1 24 false [.slice none 0 0]:=⟨by kernel_rfl,by kernel_rfl⟩
def pC:TI aL 41 1 24 false [.slice none 0 0]:=⟨by kernel_rfl,by kernel_rfl⟩
def jM:TI aL 43 1 24 true [.slice none 0 0]:=⟨by kernel_rfl,by kernel_rfl⟩
def tm:TI aL 44 1 24 false [.slice none 0 0]:=⟨by kernel_rfl,by kernel_rfl⟩
def zP:TI aL 45 1 24 false [.slice none 0 0]:=⟨by kernel_rfl,by kernel_rfl⟩
def F2:TI aL 46 1 24 false [.slice none 0 0]:=⟨by kernel_rfl,by kernel_rfl⟩
def dc:TI aL 48 12 192 true [.int .i64 0,.int .i64 0,.int .i64 0,.int .i64 0,.slice none 0 0,.bool false,.slice none 0 0,.slice none 0 0,.slice none 0 0,.slice none 0 0,.slice none 0 0,.int .i64 0]:=⟨by kernel_rfl,by kernel_rfl⟩
def nP:TI aL 50 4 64 true [.slice none 0 0,.int .i64 0,.int .i64 0,.slice none 0 0]:=⟨by kernel_rfl,by kernel_rfl⟩
def oT:TI aL 56 2 32 true [.int .i64 0,.slice none 0 0]:=⟨by kernel_rfl,by kernel_rfl⟩
def Xd:TI aL 58 1 24 false [.slice none 0 0]:=⟨by kernel_rfl,by kernel_rfl⟩
def Kl:TI aL 62 1 24 false [.slice none 0 0]:=⟨by kernel_rfl,by kernel_rfl⟩
def yR:TI aL 64 3 64 true [.string ⟨#[]⟩,.slice none 0 0,.slice none 0 0]:=⟨by kernel_rfl,by kernel_rfl⟩
def uX:TI aL 66 2 24 true [.string ⟨#[]⟩,.int .i64 0]:=⟨by kernel_rfl,by kernel_rfl⟩
def ug:TI aL 71 1 24 false [.slice none 0 0]:=⟨by kernel_rfl,by kernel_rfl⟩
def aeT:TI aL 73 4 96 true [.slice none 0 0,.slice none 0 0,.slice none 0 0,.slice none 0 0]:=⟨by kernel_rfl,by kernel_rfl⟩
def cj:TI aL 77 4 80 true [.slice none 0 0,.slice none 0 0,.int .i64 0,.slice none 0 0]:=⟨by kernel_rfl,by kernel_rfl⟩
def Im:TI aL 82 1 8 false [.pointer none]:=⟨by kernel_rfl,by kernel_rfl⟩
def jL:TI aL 89 2 32 true [.int .i64 0,.slice none 0 0]:=⟨by kernel_rfl,by kernel_rfl⟩
def sY:TI aL 90 1 8 false [.pointer none]:=⟨by kernel_rfl,by kernel_rfl⟩
def aeS:TI aL 95 3 72 true [.slice none 0 0,.slice none 0 0,.slice none 0 0]:=⟨by kernel_rfl,by kernel_rfl⟩
def GZ:TI aL 101 3 24 true [.int .i64 0,.int .i64 0,.int .i64 0]:=⟨by kernel_rfl,by kernel_rfl⟩
def acM:TI aL 102 1 8 false [.nilFunc]:=⟨by kernel_rfl,by kernel_rfl⟩
def Zh:TI aL 103 1 8 false [.int .u64 0]:=⟨by kernel_rfl,by kernel_rfl⟩
def zF:TI aL 105 4 40 true [.int .i64 0,.int .i64 0,.int .u64 0,.string ⟨#[]⟩]:=⟨by kernel_rfl,by kernel_rfl⟩
def hM:TI aL 107 8 72 true [.int .i64 0,.int .i64 0,.int .i64 0,.int .i64 0,.int .i64 0,.int .i64 0,.int .u64 0,.string ⟨#[]⟩]:=⟨by kernel_rfl,by kernel_rfl⟩
def acL:TI aL 112 1 8 false [.nilFunc]:=⟨by kernel_rfl,by kernel_rfl⟩
def xY:TI aL 119 2 16 true (List.replicate 2 (.int .i64 0)):=⟨by kernel_rfl,by kernel_rfl⟩
def Q6:TI aL 121 1 24 false [.slice none 0 0]:=⟨by kernel_rfl,by kernel_rfl⟩
def acK:TI aL 123 3 72 true [.slice none 0 0,.slice none 0 0,.slice none 0 0]:=⟨by kernel_rfl,by kernel_rfl⟩
def Q5:TI aL 128 1 8 false [.pointer none]:=⟨by kernel_rfl,by kernel_rfl⟩
def acJ:TI aL 130 17 264 true [.pointer none,.int .i64 0,.int .i64 0,.int .i64 0,.int .i64 0,.slice none 0 0,.bool false,.slice none 0 0,.slice none 0 0,.slice none 0 0,.slice none 0 0,.slice none 0 0,.int .i64 0,.int .i64 0,.slice none 0 0,.int .i64 0,.slice none 0 0]:=⟨by kernel_rfl,by kernel_rfl⟩
def Fc:TI aL 139 2 16 true [.int .i64 0,.bool false]:=⟨by kernel_rfl,by kernel_rfl⟩
def GY:TI aL 143 1 8 false [.pointer none]:=⟨by kernel_rfl,by kernel_rfl⟩
def acI:TI aL 145 18 336 true [.slice none 0 0,.slice none 0 0,.slice none 0 0,.int .i64 0,.int .i64 0,.int .i64 0,.int .i64 0,.slice none 0 0,.bool false,.slice none 0 0,.slice none 0 0,.slice none 0 0,.slice none 0 0,.slice none 0 0,.int .i64 0,.slice none 0 0,.slice none 0 0,.slice none 0 0]:=⟨by kernel_rfl,by kernel_rfl⟩
def acH:TI aL 155 1 8 false [.nilFunc]:=⟨by kernel_rfl,by kernel_rfl⟩
def UK:TI aL 201 2 24 true [.string ⟨#[]⟩,.int .i64 0]:=⟨by kernel_rfl,by kernel_rfl⟩
def acG:TI aL 202 6 72 true [.string ⟨#[]⟩,.int .i64 0,.string ⟨#[]⟩,.int .i64 0,.string ⟨#[]⟩,.int .i64 0]:=⟨by kernel_rfl,by kernel_rfl⟩
def tL:cb aL 24 0=some (0,1):=by kernel_rfl
def wL:cb aL 27 0=some (0,1):=by kernel_rfl
def jz:cb aL 33 0=some (0,1):=by kernel_rfl
def gI:cb aL 43 0=some (0,1):=by kernel_rfl
def jy:cb aL 48 0=some (0,1):=by kernel_rfl
def j8:cb aL 48 1=some (1,1):=by kernel_rfl
def oN:cb aL 48 2=some (2,1):=by kernel_rfl
def oM:cb aL 48 3=some (3,1):=by kernel_rfl
def oL:cb aL 48 4=some (4,1):=by kernel_rfl
def Qe:cb aL 48 5=some (5,1):=by kernel_rfl
def tK:cb aL 48 6=some (6,1):=by kernel_rfl
def mf:cb aL 48 7=some (7,1):=by kernel_rfl
def kI:cb aL 48 8=some (8,1):=by kernel_rfl
def qT:cb aL 48 9=some (9,1):=by kernel_rfl
def rX:cb aL 48 10=some (10,1):=by kernel_rfl
def vT:cb aL 48 11=some (11,1):=by kernel_rfl
def tJ:cb aL 50 0=some (0,1):=by kernel_rfl
def AH:cb aL 50 1=some (1,1):=by kernel_rfl
def AG:cb aL 50 2=some (2,1):=by kernel_rfl
def Lf:cb aL 50 3=some (3,1):=by kernel_rfl
def rq:cb aL 56 0=some (0,1):=by kernel_rfl
def xO:cb aL 56 1=some (1,1):=by kernel_rfl
def Qd:cb aL 64 0=some (0,1):=by kernel_rfl
def zn:cb aL 64 1=some (1,1):=by kernel_rfl
def HO:cb aL 64 2=some (2,1):=by kernel_rfl
def VP:cb aL 66 0=some (0,1):=by kernel_rfl
def Qc:cb aL 66 1=some (1,1):=by kernel_rfl
def AF:cb aL 73 0=some (0,1):=by kernel_rfl
def aaX:cb aL 73 1=some (1,1):=by kernel_rfl
def aaW:cb aL 73 2=some (2,1):=by kernel_rfl
def Qb:cb aL 73 3=some (3,1):=by kernel_rfl
def xN:cb aL 77 0=some (0,1):=by kernel_rfl
def Qa:cb aL 77 1=some (1,1):=by kernel_rfl
def wK:cb aL 77 2=some (2,1):=by kernel_rfl
def ss:cb aL 77 3=some (3,1):=by kernel_rfl
def tI:cb aL 89 0=some (0,1):=by kernel_rfl
def zm:cb aL 89 1=some (1,1):=by kernel_rfl
def PZ:cb aL 95 0=some (0,1):=by kernel_rfl
def tH:cb aL 95 1=some (1,1):=by kernel_rfl
def AE:cb aL 95 2=some (2,1):=by kernel_rfl
def Bh:cb aL 105 0=some (0,1):=by kernel_rfl
def GC:cb aL 105 1=some (1,1):=by kernel_rfl
def XU:cb aL 105 2=some (2,1):=by kernel_rfl
def Lj:cb aL 105 3=some (3,1):=by kernel_rfl
def ow:cb aL 107 0=some (0,1):=by kernel_rfl
def DA:cb aL 107 1=some (1,1):=by kernel_rfl
def Dz:cb aL 107 2=some (2,1):=by kernel_rfl
def rY:cb aL 107 3=some (3,1):=by kernel_rfl
def Dy:cb aL 107 4=some (4,4):=by kernel_rfl
def uO:cb aL 123 0=some (0,1):=by kernel_rfl
def Li:cb aL 123 1=some (1,1):=by kernel_rfl
def GB:cb aL 123 2=some (2,1):=by kernel_rfl
def RH:cb aL 130 0=some (0,1):=by kernel_rfl
def GA:cb aL 130 1=some (1,12):=by kernel_rfl
def zp:cb aL 130 2=some (13,2):=by kernel_rfl
def Lh:cb aL 130 3=some (15,2):=by kernel_rfl
def Gz:cb aL 139 0=some (0,1):=by kernel_rfl
def Lg:cb aL 145 0=some (0,1):=by kernel_rfl
def Gy:cb aL 145 1=some (1,1):=by kernel_rfl
def vU:cb aL 145 2=some (2,1):=by kernel_rfl
def jX:cb aL 145 3=some (3,12):=by kernel_rfl
def lQ:cb aL 145 4=some (15,1):=by kernel_rfl
def Dx:cb aL 145 5=some (16,1):=by kernel_rfl
def iG:cb aL 145 6=some (17,1):=by kernel_rfl
def XT:cb aL 201 0=some (0,1):=by kernel_rfl
def XS:cb aL 201 1=some (1,1):=by kernel_rfl
def aaT:ki aL 24=some [(0,1)]:=by kernel_rfl
def ae7:ki aL 27=some [(0,1)]:=by kernel_rfl
def XP:ki aL 33=some [(0,1)]:=by kernel_rfl
def aaS:ki aL 43=some [(0,1)]:=by kernel_rfl
def TF:ki aL 48=some [(0,1),(1,1),(2,1),(3,1),(4,1),(5,1),(6,1),(7,1),(8,1),(9,1),(10,1),(11,1)]:=by kernel_rfl
def acY:ki aL 50=some [(0,1),(1,1),(2,1),(3,1)]:=by kernel_rfl
def acX:ki aL 56=some [(0,1),(1,1)]:=by kernel_rfl
def acW:ki aL 64=some [(0,1),(1,1),(2,1)]:=by kernel_rfl
def aaR:ki aL 66=some [(0,1),(1,1)]:=by kernel_rfl
def ae6:ki aL 73=some [(0,1),(1,1),(2,1),(3,1)]:=by kernel_rfl
def aaQ:ki aL 77=some [(0,1),(1,1),(2,1),(3,1)]:=by kernel_rfl
def Ny:ki aL 89=some [(0,1),(1,1)]:=by kernel_rfl
def ae5:ki aL 95=some [(0,1),(1,1),(2,1)]:=by kernel_rfl
def ac2:ki aL 101=some [(0,1),(1,1),(2,1)]:=by kernel_rfl
def VM:ki aL 105=some [(0,1),(1,1),(2,1),(3,1)]:=by kernel_rfl
def ac1:ki aL 123=some [(0,1),(1,1),(2,1)]:=by kernel_rfl
def ac0:ki aL 130=some [(0,1),(1,12),(13,2),(15,2)]:=by kernel_rfl
def acZ:ki aL 145=some [(0,1),(1,1),(2,1),(3,12),(15,1),(16,1),(17,1)]:=by kernel_rfl
def cb4:af aL 4=true:=by kernel_rfl
def cb5:af aL 5=true:=by kernel_rfl
def cb6:af aL 6=true:=by kernel_rfl
def cb7:af aL 7=true:=by kernel_rfl
def cb8:af aL 8=true:=by kernel_rfl
def cb9:af aL 9=true:=by kernel_rfl
def aeJ:af aL 10=true:=by kernel_rfl
def af6:af aL 11=true:=by kernel_rfl
def af5:af aL 12=true:=by kernel_rfl
def af4:af aL 13=true:=by kernel_rfl
def acf:af aL 14=true:=by kernel_rfl
def af3:af aL 15=true:=by kernel_rfl
def adW:af aL 16=true:=by kernel_rfl
def af2:af aL 17=true:=by kernel_rfl
def af1:af aL 18=true:=by kernel_rfl
def T0:af aL 19=true:=by kernel_rfl
def adC:af aL 20=true:=by kernel_rfl
def af0:af aL 21=true:=by kernel_rfl
def afZ:af aL 22=true:=by kernel_rfl
def adA:af aL 23=true:=by kernel_rfl
def afY:af aL 24=true:=by kernel_rfl
def afX:af aL 25=true:=by kernel_rfl
def ace:af aL 26=true:=by kernel_rfl
def Ge:af aL 27=true:=by kernel_rfl
def adz:af aL 28=true:=by kernel_rfl
def afW:af aL 29=true:=by kernel_rfl
def afV:af aL 30=true:=by kernel_rfl
def afU:af aL 31=true:=by kernel_rfl
def afT:af aL 32=true:=by kernel_rfl
def afS:af aL 33=true:=by kernel_rfl
def afR:af aL 34=true:=by kernel_rfl
def afQ:af aL 35=true:=by kernel_rfl
def afP:af aL 36=true:=by kernel_rfl
def Wp:af aL 37=true:=by kernel_rfl
def afO:af aL 38=true:=by kernel_rfl
def NY:af aL 39=true:=by kernel_rfl
def afN:af aL 40=true:=by kernel_rfl
def afM:af aL 41=true:=by kernel_rfl
def afL:af aL 42=true:=by kernel_rfl
def afK:af aL 43=true:=by kernel_rfl
def afJ:af aL 44=true:=by kernel_rfl
def afI:af aL 45=true:=by kernel_rfl
def afH:af aL 46=true:=by kernel_rfl
def afG:af aL 47=true:=by kernel_rfl
def afF:af aL 48=true:=by kernel_rfl
def afE:af aL 49=true:=by kernel_rfl
def afD:af aL 50=true:=by kernel_rfl
def afC:af aL 51=true:=by kernel_rfl
def ady:af aL 52=true:=by kernel_rfl
def afB:af aL 53=true:=by kernel_rfl
def afA:af aL 54=true:=by kernel_rfl
def afz:af aL 55=true:=by kernel_rfl
def afy:af aL 56=true:=by kernel_rfl
def afx:af aL 57=true:=by kernel_rfl
def afw:af aL 58=true:=by kernel_rfl
def afv:af aL 59=true:=by kernel_rfl
def afu:af aL 60=true:=by kernel_rfl
def aft:af aL 61=true:=by kernel_rfl
def acd:af aL 62=true:=by kernel_rfl
def afs:af aL 63=true:=by kernel_rfl
def afr:af aL 64=true:=by kernel_rfl
def afq:af aL 65=true:=by kernel_rfl
def adx:af aL 66=true:=by kernel_rfl
def afp:af aL 67=true:=by kernel_rfl
def afo:af aL 68=true:=by kernel_rfl
def YS:af aL 69=true:=by kernel_rfl
def afn:af aL 70=true:=by kernel_rfl
def afm:af aL 71=true:=by kernel_rfl
def DL:af aL 72=true:=by kernel_rfl
def NX:af aL 73=true:=by kernel_rfl
def acc:af aL 74=true:=by kernel_rfl
def afl:af aL 75=true:=by kernel_rfl
def adw:af aL 76=true:=by kernel_rfl
def acb:af aL 77=true:=by kernel_rfl
def afk:af aL 78=true:=by kernel_rfl
def TZ:af aL 79=true:=by kernel_rfl
def afj:af aL 80=true:=by kernel_rfl
def afi:af aL 81=true:=by kernel_rfl
def afh:af aL 82=true:=by kernel_rfl
def afg:af aL 83=true:=by kernel_rfl
def aff:af aL 84=true:=by kernel_rfl
def adv:af aL 85=true:=by kernel_rfl
def adu:af aL 86=true:=by kernel_rfl
def aca:af aL 87=true:=by kernel_rfl
def afe:af aL 88=true:=by kernel_rfl
def afd:af aL 89=true:=by kernel_rfl
def afc:af aL 90=true:=by kernel_rfl
def afb:af aL 91=true:=by kernel_rfl
def ab9:af aL 92=true:=by kernel_rfl
def YR:af aL 93=true:=by kernel_rfl
def adt:af aL 94=true:=by kernel_rfl
def ads:af aL 95=true:=by kernel_rfl
def afa:af aL 96=true:=by kernel_rfl
def adr:af aL 97=true:=by kernel_rfl
def adq:af aL 98=true:=by kernel_rfl
def adp:af aL 99=true:=by kernel_rfl
def aeI:af aL 100=true:=by kernel_rfl
def aeH:af aL 101=true:=by kernel_rfl
def aeG:af aL 102=true:=by kernel_rfl
def aeF:af aL 103=true:=by kernel_rfl
def aeE:af aL 104=true:=by kernel_rfl
def aeD:af aL 105=true:=by kernel_rfl
def aeC:af aL 106=true:=by kernel_rfl
def aeB:af aL 107=true:=by kernel_rfl
def aeA:af aL 108=true:=by kernel_rfl
def aez:af aL 109=true:=by kernel_rfl
def aey:af aL 110=true:=by kernel_rfl
def aex:af aL 111=true:=by kernel_rfl
def aew:af aL 112=true:=by kernel_rfl
def aev:af aL 113=true:=by kernel_rfl
def aeu:af aL 114=true:=by kernel_rfl
def aet:af aL 115=true:=by kernel_rfl
def aes:af aL 116=true:=by kernel_rfl
def ZI:af aL 117=true:=by kernel_rfl
def aer:af aL 118=true:=by kernel_rfl
def aeq:af aL 119=true:=by kernel_rfl
def aep:af aL 120=true:=by kernel_rfl
def aeo:af aL 121=true:=by kernel_rfl
def aen:af aL 122=true:=by kernel_rfl
def aem:af aL 123=true:=by kernel_rfl
def ael:af aL 124=true:=by kernel_rfl
def aek:af aL 125=true:=by kernel_rfl
def aej:af aL 126=true:=by kernel_rfl
def aei:af aL 127=true:=by kernel_rfl
def ZH:af aL 128=true:=by kernel_rfl
def ZG:af aL 129=true:=by kernel_rfl
def aeh:af aL 130=true:=by kernel_rfl
def aeg:af aL 131=true:=by kernel_rfl
def aef:af aL 132=true:=by kernel_rfl
def aee:af aL 133=true:=by kernel_rfl
def aed:af aL 134=true:=by kernel_rfl
def aec:af aL 135=true:=by kernel_rfl
def Wq:af aL 136=true:=by kernel_rfl
def aeb:af aL 137=true:=by kernel_rfl
def aea:af aL 138=true:=by kernel_rfl
def ZF:af aL 139=true:=by kernel_rfl
def ad9:af aL 140=true:=by kernel_rfl
def ad8:af aL 141=true:=by kernel_rfl
def ad7:af aL 142=true:=by kernel_rfl
def ad6:af aL 143=true:=by kernel_rfl
def R1:af aL 144=true:=by kernel_rfl
def ad5:af aL 145=true:=by kernel_rfl
def ad4:af aL 146=true:=by kernel_rfl
def ZE:af aL 147=true:=by kernel_rfl
def ZD:af aL 148=true:=by kernel_rfl
def ad3:af aL 149=true:=by kernel_rfl
def ad2:af aL 150=true:=by kernel_rfl
def ZC:af aL 151=true:=by kernel_rfl
def ZB:af aL 152=true:=by kernel_rfl
def ad1:af aL 153=true:=by kernel_rfl
def ad0:af aL 154=true:=by kernel_rfl
def H1:af aL 155=true:=by kernel_rfl
def adZ:af aL 156=true:=by kernel_rfl
def ZA:af aL 157=true:=by kernel_rfl
def adY:af aL 158=true:=by kernel_rfl
def adX:af aL 159=true:=by kernel_rfl
def adV:af aL 160=true:=by kernel_rfl
def Zz:af aL 161=true:=by kernel_rfl
def adU:af aL 162=true:=by kernel_rfl
def adT:af aL 163=true:=by kernel_rfl
def adS:af aL 170=true:=by kernel_rfl
def adR:af aL 171=true:=by kernel_rfl
def adQ:af aL 172=true:=by kernel_rfl
def Zy:af aL 173=true:=by kernel_rfl
def adP:af aL 174=true:=by kernel_rfl
def adO:af aL 175=true:=by kernel_rfl
def adN:af aL 176=true:=by kernel_rfl
def adM:af aL 177=true:=by kernel_rfl
def adL:af aL 178=true:=by kernel_rfl
def adK:af aL 179=true:=by kernel_rfl
def adJ:af aL 180=true:=by kernel_rfl
def adI:af aL 181=true:=by kernel_rfl
def adH:af aL 189=true:=by kernel_rfl
def adG:af aL 190=true:=by kernel_rfl
def adF:af aL 191=true:=by kernel_rfl
def adE:af aL 192=true:=by kernel_rfl
def adD:af aL 198=true:=by kernel_rfl
def adB:af aL 204=true:=by kernel_rfl
def zv3:ZV aL 3 (.int .i64 0):=(show(Tryz.prog.info? 3).bind (fun i=>i.zero)=some (.int .i64 0) by kernel_rfl)
def zv4:ZV aL 4 (.bool false):=(show(Tryz.prog.info? 4).bind (fun i=>i.zero)=some (.bool false) by kernel_rfl)
def acn:ZV aL 116 (.nilFunc):=(show(Tryz.prog.info? 116).bind (fun i=>i.zero)=some (.nilFunc) by kernel_rfl)
def acm:ZV aL 131 (.nilFunc):=(show(Tryz.prog.info? 131).bind (fun i=>i.zero)=some (.nilFunc) by kernel_rfl)
def acl:ZV aL 149 (.nilFunc):=(show(Tryz.prog.info? 149).bind (fun i=>i.zero)=some (.nilFunc) by kernel_rfl)
def ack:ZV aL 190 (.nilFunc):=(show(Tryz.prog.info? 190).bind (fun i=>i.zero)=some (.nilFunc) by kernel_rfl)
def ab5:rl aL 105 gL 2:=HT (n:=1) (fs:=[(3,0,false),(2,1,false),(103,2,false),(9,3,false)]) (by kernel_rfl) (by kernel_rfl) rfl (Sp.cons bN rfl rfl zj (rl.up (DC (n:=0) ld) 0) (Sp.cons ti2 rfl rfl Cx (rl.up (DC (n:=0) Tryz.underlying2) 0) (Sp.cons Zh rfl rfl PV (rl.up (DC (n:=0) Tryz.underlying103) 0) (Sp.cons OV rfl rfl Cw (rl.up (YK (n:=0) pB) 0) Sp.nil)))) (fun x y=>by cases x;cases y;simp [Bool.decide_and])
def Wb:Ux aL 105 gL:=Ux.of (by kernel_rfl) (rl.up ab5 18)
def RV:Ux aL 119 (sj (rI .i64) 2):=Ux.of (by kernel_rfl) (rl.up (YL (n:=1) Ea bN rfl rfl (DC (n:=0) ld)) 18)
def ab4:rl aL 139 kz 2:=HT (n:=1) (fs:=[(3,0,false),(4,1,false)]) (by kernel_rfl) (by kernel_rfl) rfl (Sp.cons bN rfl rfl AA (rl.up (DC (n:=0) ld) 0) (Sp.cons I0 rfl rfl VO (rl.up (Wa (n:=0) QU) 0) Sp.nil)) (fun x y=>by cases x;cases y;simp [Bool.decide_and])
def adn:Ux aL 139 kz:=Ux.of (by kernel_rfl) (rl.up ab4 18)
def upX:Go.Proofs.Builder.Extra aL qB:={sizeBuilder:=by kernel_rfl,liesBuilder:=by kernel_rfl,t5:=Tryz.underlying5,a5:=Tryz.isAgg5,z5:=Tryz.sizeOf5,v5:=Tryz.zeroValue5,infoByte:=by kernel_rfl,cellsByte:=by kernel_rfl,sizeByte:=by kernel_rfl,neB5:=by decide}
