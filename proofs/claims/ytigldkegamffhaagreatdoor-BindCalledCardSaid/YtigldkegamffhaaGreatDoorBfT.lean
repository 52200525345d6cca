/- de of this claim: T. -/
import Derived.Test.YtigldkegamffhaaGreatDoorBfD
import Derived.Test.YtigldkegamffhaaGreatDoorProg
import Derived.Test.YtigldkegamffhaaGreatDoorBfS
import Derived.Test.YtigldkegamffhaaGreatDoorBfV4
import Derived.Shelf.Strings.CaseAny
import Derived.KernelRfl
set_option linter.all false
namespace Go.Proofs.YtigldkegamffhaaGreatDoor
open Go
noncomputable abbrev aY:=Tryz.prog
def jL:= @Tryz.underlying35
def i6:= @Tryz.underlying9
def rl:= @Tryz.underlying79
def sQ:= @Tryz.underlying44
def sP:= @Tryz.underlying48
def tn:= @Tryz.underlying3
def u0:= @Tryz.underlying25
def vH:= @Tryz.underlying47
def vY:= @Tryz.underlying83
def vX:= @Tryz.underlying74
def yo:= @Tryz.underlying22
def A8:= @Tryz.underlying34
def Ce:= @Tryz.underlying29
def Cc:= @Tryz.underlying51
def yu:= @Tryz.underlying78
def yr:= @Tryz.underlying26
def IU:= @Tryz.underlying4
def ER:= @Tryz.underlying219
def IS:= @Tryz.underlying42
def EP:= @Tryz.underlying33
def Gb:= @Tryz.underlying190
def F9:= @Tryz.underlying36
def F8:= @Tryz.underlying55
def F7:= @Tryz.underlying77
def Lo:= @Tryz.underlying184

def mixed:Tryz.prog.follows .mixedOrders=true:=by kernel_rfl
def ti2:TI aY 2 1 8 false [.int .i64 0]:=⟨by kernel_rfl,by kernel_rfl⟩
def er:TI aY 3 1 8 false [.int .i64 0]:=⟨by kernel_rfl,by kernel_rfl⟩
def IX:TI aY 4 1 1 false [.bool false]:=⟨by kernel_rfl,by kernel_rfl⟩
def mT:TI aY 9 1 16 false [.string ⟨#[]⟩]:=⟨by kernel_rfl,by kernel_rfl⟩
def Gq:TI aY 22 1 24 false [.slice none 0 0]:=⟨by kernel_rfl,by kernel_rfl⟩
def uu:TI aY 24 1 24 true [.slice none 0 0]:=⟨by kernel_rfl,by kernel_rfl⟩
def Bh:TI aY 25 1 24 false [.slice none 0 0]:=⟨by kernel_rfl,by kernel_rfl⟩
def Iu:TI aY 26 1 24 false [.slice none 0 0]:=⟨by kernel_rfl,by kernel_rfl⟩
def qo:TI aY 28 3 56 true [.slice none 0 0,.slice none 0 0,.int .i64 0]:=⟨by kernel_rfl,by kernel_rfl⟩
def Ke:TI aY 29 2 16 true (List.replicate 2 (.int .i64 0)):=⟨by kernel_rfl,by kernel_rfl⟩
def TN:TI aY 33 1 24 false [.slice none 0 0]:=⟨by kernel_rfl,by kernel_rfl⟩
def RS:TI aY 34 1 24 false [.slice none 0 0]:=⟨by kernel_rfl,by kernel_rfl⟩
def ky:TI aY 35 1 24 false [.slice none 0 0]:=⟨by kernel_rfl,by kernel_rfl⟩
def Wj:TI aY 36 1 24 false [.slice none 0 0]:=⟨by kernel_rfl,by kernel_rfl⟩
def pi:TI aY 38 5 104 true [.slice none 0 0,.slice none 0 0,.slice none 0 0,.slice none 0 0,.int .i64 0]:=⟨by kernel_rfl,by kernel_rfl⟩
def At:TI aY 44 1 24 false [.slice none 0 0]:=⟨by kernel_rfl,by kernel_rfl⟩
def RR:TI aY 46 2 32 true [.string ⟨#[]⟩,.string ⟨#[]⟩]:=⟨by kernel_rfl,by kernel_rfl⟩
def yD:TI aY 47 1 24 false [.slice none 0 0]:=⟨by kernel_rfl,by kernel_rfl⟩
def ye:TI aY 48 1 24 false [.slice none 0 0]:=⟨by kernel_rfl,by kernel_rfl⟩
def ic:TI aY 50 1 24 true [.slice none 0 0]:=⟨by kernel_rfl,by kernel_rfl⟩
def Cq:TI aY 51 1 24 false [.slice none 0 0]:=⟨by kernel_rfl,by kernel_rfl⟩
def oF:TI aY 53 9 160 true [.bool false,.bool false,.slice none 0 0,.string ⟨#[]⟩,.string ⟨#[]⟩,.slice none 0 0,.slice none 0 0,.slice none 0 0,.slice none 0 0]:=⟨by kernel_rfl,by kernel_rfl⟩
def sU:TI aY 57 4 64 true [.bool false,.string ⟨#[]⟩,.string ⟨#[]⟩,.slice none 0 0]:=⟨by kernel_rfl,by kernel_rfl⟩
def oE:TI aY 59 2 40 true [.slice none 0 0,.string ⟨#[]⟩]:=⟨by kernel_rfl,by kernel_rfl⟩
def yd:TI aY 62 2 32 true [.string ⟨#[]⟩,.string ⟨#[]⟩]:=⟨by kernel_rfl,by kernel_rfl⟩
def Fy:TI aY 68 3 32 true [.string ⟨#[]⟩,.int .i64 0,.bool false]:=⟨by kernel_rfl,by kernel_rfl⟩
def aaG:TI aY 69 1 8 false [.int .u64 0]:=⟨by kernel_rfl,by kernel_rfl⟩
def yC:TI aY 71 4 40 true [.int .i64 0,.int .i64 0,.int .u64 0,.string ⟨#[]⟩]:=⟨by kernel_rfl,by kernel_rfl⟩
def oD:TI aY 73 8 72 true [.int .i64 0,.int .i64 0,.int .i64 0,.int .i64 0,.int .i64 0,.int .i64 0,.int .u64 0,.string ⟨#[]⟩]:=⟨by kernel_rfl,by kernel_rfl⟩
def NY:TI aY 74 1 24 false [.slice none 0 0]:=⟨by kernel_rfl,by kernel_rfl⟩
def cI:TI aY 76 1 24 true [.slice none 0 0]:=⟨by kernel_rfl,by kernel_rfl⟩
def Wi:TI aY 77 1 24 false [.slice none 0 0]:=⟨by kernel_rfl,by kernel_rfl⟩
def NX:TI aY 78 1 24 false [.slice none 0 0]:=⟨by kernel_rfl,by kernel_rfl⟩
def Lz:TI aY 79 1 24 false [.slice none 0 0]:=⟨by kernel_rfl,by kernel_rfl⟩
def Fx:TI aY 81 9 176 true [.slice none 0 0,.slice none 0 0,.slice none 0 0,.slice none 0 0,.bool false,.bool false,.slice none 0 0,.slice none 0 0,.slice none 0 0]:=⟨by kernel_rfl,by kernel_rfl⟩
def Kd:TI aY 83 1 24 false [.slice none 0 0]:=⟨by kernel_rfl,by kernel_rfl⟩
def ut:TI aY 85 3 64 true [.string ⟨#[]⟩,.slice none 0 0,.slice none 0 0]:=⟨by kernel_rfl,by kernel_rfl⟩
def sS:TI aY 88 2 24 true [.string ⟨#[]⟩,.int .i64 0]:=⟨by kernel_rfl,by kernel_rfl⟩
def TM:TI aY 98 1 8 false [.pointer none]:=⟨by kernel_rfl,by kernel_rfl⟩
def aaF:TI aY 99 1 8 false [.map none]:=⟨by kernel_rfl,by kernel_rfl⟩
def LB:TI aY 100 1 8 false [.map none]:=⟨by kernel_rfl,by kernel_rfl⟩
def XX:TI aY 101 1 8 false [.map none]:=⟨by kernel_rfl,by kernel_rfl⟩
def aaM:TI aY 103 25 440 true [.slice none 0 0,.bool false,.bool false,.slice none 0 0,.string ⟨#[]⟩,.string ⟨#[]⟩,.slice none 0 0,.slice none 0 0,.slice none 0 0,.slice none 0 0,.slice none 0 0,.slice none 0 0,.slice none 0 0,.slice none 0 0,.bool false,.bool false,.slice none 0 0,.slice none 0 0,.slice none 0 0,.map none,.map none,.map none,.slice none 0 0,.slice none 0 0,.int .i64 0]:=⟨by kernel_rfl,by kernel_rfl⟩
def XW:TI aY 104 1 8 false [.nilFunc]:=⟨by kernel_rfl,by kernel_rfl⟩
def Gr:TI aY 111 2 16 true [.int .i64 0,.bool false]:=⟨by kernel_rfl,by kernel_rfl⟩
def nL:TI aY 113 9 96 true [.int .i64 0,.int .i64 0,.int .i64 0,.int .i64 0,.int .i64 0,.int .u64 0,.string ⟨#[]⟩,.string ⟨#[]⟩,.string ⟨#[]⟩]:=⟨by kernel_rfl,by kernel_rfl⟩
def yE:TI aY 115 2 32 true [.bool false,.slice none 0 0]:=⟨by kernel_rfl,by kernel_rfl⟩
def TQ:TI aY 117 1 8 false [.nilFunc]:=⟨by kernel_rfl,by kernel_rfl⟩
def sx:TI aY 119 2 32 true [.int .i64 0,.slice none 0 0]:=⟨by kernel_rfl,by kernel_rfl⟩
def TP:TI aY 120 1 8 false [.nilFunc]:=⟨by kernel_rfl,by kernel_rfl⟩
def aaL:TI aY 134 1 8 false [.nilFunc]:=⟨by kernel_rfl,by kernel_rfl⟩
def aaK:TI aY 139 6 48 true (List.replicate 6 (.nilFunc)):=⟨by kernel_rfl,by kernel_rfl⟩
def aaJ:TI aY 145 1 8 false [.nilFunc]:=⟨by kernel_rfl,by kernel_rfl⟩
def aaI:TI aY 155 2 48 true (List.replicate 2 (.slice none 0 0)):=⟨by kernel_rfl,by kernel_rfl⟩
def LA:TI aY 160 1 8 false [.nilFunc]:=⟨by kernel_rfl,by kernel_rfl⟩
def TO:TI aY 168 2 24 true [.string ⟨#[]⟩,.int .i64 0]:=⟨by kernel_rfl,by kernel_rfl⟩
def aaH:TI aY 169 6 72 true [.string ⟨#[]⟩,.int .i64 0,.string ⟨#[]⟩,.int .i64 0,.string ⟨#[]⟩,.int .i64 0]:=⟨by kernel_rfl,by kernel_rfl⟩
def IY:TI aY 190 1 8 false [.map none]:=⟨by kernel_rfl,by kernel_rfl⟩
def Qr:TI aY 197 1 8 false [.nilFunc]:=⟨by kernel_rfl,by kernel_rfl⟩
def Qq:TI aY 198 1 8 false [.nilFunc]:=⟨by kernel_rfl,by kernel_rfl⟩
def AG:TI aY 238 2 16 true [.int .i64 0,.int .i64 0]:=⟨by kernel_rfl,by kernel_rfl⟩
def vS:bp aY 24 0=some (0,1):=by kernel_rfl
def qK:bp aY 28 0=some (0,1):=by kernel_rfl
def zf:bp aY 28 1=some (1,1):=by kernel_rfl
def Pi:bp aY 28 2=some (2,1):=by kernel_rfl
def HJ:bp aY 38 0=some (0,1):=by kernel_rfl
def Et:bp aY 38 1=some (1,1):=by kernel_rfl
def HI:bp aY 38 2=some (2,1):=by kernel_rfl
def KT:bp aY 38 3=some (3,1):=by kernel_rfl
def U5:bp aY 38 4=some (4,1):=by kernel_rfl
def HH:bp aY 46 0=some (0,1):=by kernel_rfl
def Es:bp aY 46 1=some (1,1):=by kernel_rfl
def nK:bp aY 50 0=some (0,1):=by kernel_rfl
def Zd:bp aY 53 0=some (0,1):=by kernel_rfl
def KS:bp aY 53 1=some (1,1):=by kernel_rfl
def pb:bp aY 53 2=some (2,1):=by kernel_rfl
def Pg:bp aY 53 3=some (3,2):=by kernel_rfl
def pR:bp aY 53 4=some (5,1):=by kernel_rfl
def xj:bp aY 53 5=some (6,1):=by kernel_rfl
def vR:bp aY 53 6=some (7,1):=by kernel_rfl
def vQ:bp aY 53 7=some (8,1):=by kernel_rfl
def Zc:bp aY 57 0=some (0,1):=by kernel_rfl
def Pf:bp aY 57 1=some (1,2):=by kernel_rfl
def ze:bp aY 57 2=some (3,1):=by kernel_rfl
def te:bp aY 59 0=some (0,1):=by kernel_rfl
def U4:bp aY 59 1=some (1,1):=by kernel_rfl
def KR:bp aY 62 0=some (0,1):=by kernel_rfl
def U3:bp aY 62 1=some (1,1):=by kernel_rfl
def HG:bp aY 68 0=some (0,1):=by kernel_rfl
def HF:bp aY 68 1=some (1,1):=by kernel_rfl
def Zb:bp aY 68 2=some (2,1):=by kernel_rfl
def Er:bp aY 71 0=some (0,1):=by kernel_rfl
def HE:bp aY 71 1=some (1,1):=by kernel_rfl
def Za:bp aY 71 2=some (2,1):=by kernel_rfl
def xi:bp aY 71 3=some (3,1):=by kernel_rfl
def vP:bp aY 73 0=some (0,1):=by kernel_rfl
def HD:bp aY 73 1=some (1,1):=by kernel_rfl
def HC:bp aY 73 2=some (2,1):=by kernel_rfl
def BL:bp aY 73 3=some (3,1):=by kernel_rfl
def KP:bp aY 73 4=some (4,4):=by kernel_rfl
def BK:bp aY 76 0=some (0,1):=by kernel_rfl
def HB:bp aY 81 0=some (0,1):=by kernel_rfl
def KO:bp aY 81 1=some (1,1):=by kernel_rfl
def Pe:bp aY 81 2=some (2,1):=by kernel_rfl
def Pd:bp aY 81 3=some (3,1):=by kernel_rfl
def BJ:bp aY 81 4=some (4,1):=by kernel_rfl
def Pc:bp aY 81 5=some (5,1):=by kernel_rfl
def Ep:bp aY 81 6=some (6,1):=by kernel_rfl
def BI:bp aY 81 7=some (7,1):=by kernel_rfl
def zd:bp aY 81 8=some (8,1):=by kernel_rfl
def U2:bp aY 85 0=some (0,1):=by kernel_rfl
def xh:bp aY 85 1=some (1,1):=by kernel_rfl
def KN:bp aY 85 2=some (2,1):=by kernel_rfl
def HA:bp aY 88 0=some (0,1):=by kernel_rfl
def U1:bp aY 88 1=some (1,1):=by kernel_rfl
def KW:bp aY 103 0=some (0,1):=by kernel_rfl
def nQ:bp aY 103 1=some (1,9):=by kernel_rfl
def gO:bp aY 103 2=some (10,9):=by kernel_rfl
def Ra:bp aY 103 3=some (19,1):=by kernel_rfl
def KV:bp aY 103 4=some (20,1):=by kernel_rfl
def Q9:bp aY 103 5=some (21,1):=by kernel_rfl
def vx:bp aY 103 6=some (22,1):=by kernel_rfl
def Ab:bp aY 103 7=some (23,1):=by kernel_rfl
def xk:bp aY 103 8=some (24,1):=by kernel_rfl
def vw:bp aY 113 0=some (0,1):=by kernel_rfl
def Q8:bp aY 113 1=some (1,1):=by kernel_rfl
def Q7:bp aY 113 2=some (2,1):=by kernel_rfl
def qM:bp aY 113 3=some (3,4):=by kernel_rfl
def qL:bp aY 113 4=some (7,1):=by kernel_rfl
def sj:bp aY 113 5=some (8,1):=by kernel_rfl
def Q6:bp aY 115 0=some (0,1):=by kernel_rfl
def Q5:bp aY 115 1=some (1,1):=by kernel_rfl
def vv:bp aY 119 0=some (0,1):=by kernel_rfl
def Aa:bp aY 119 1=some (1,1):=by kernel_rfl
def WR:bp aY 168 0=some (0,1):=by kernel_rfl
def WQ:bp aY 168 1=some (1,1):=by kernel_rfl
def KU:bp aY 238 0=some (0,1):=by kernel_rfl
def C7:bp aY 238 1=some (1,1):=by kernel_rfl
def aa2:ig aY 24=some [(0,1)]:=by kernel_rfl
def acE:ig aY 28=some [(0,1),(1,1),(2,1)]:=by kernel_rfl
def SI:ig aY 38=some [(0,1),(1,1),(2,1),(3,1),(4,1)]:=by kernel_rfl
def acD:ig aY 46=some [(0,1),(1,1)]:=by kernel_rfl
def Y4:ig aY 50=some [(0,1)]:=by kernel_rfl
def acC:ig aY 53=some [(0,1),(1,1),(2,1),(3,2),(5,1),(6,1),(7,1),(8,1)]:=by kernel_rfl
def acB:ig aY 59=some [(0,1),(1,1)]:=by kernel_rfl
def aa1:ig aY 62=some [(0,1),(1,1)]:=by kernel_rfl
def acA:ig aY 68=some [(0,1),(1,1),(2,1)]:=by kernel_rfl
def WM:ig aY 71=some [(0,1),(1,1),(2,1),(3,1)]:=by kernel_rfl
def SG:ig aY 73=some [(0,1),(1,1),(2,1),(3,1),(4,4)]:=by kernel_rfl
def O4:ig aY 76=some [(0,1)]:=by kernel_rfl
def aa0:ig aY 85=some [(0,1),(1,1),(2,1)]:=by kernel_rfl
def Y3:ig aY 88=some [(0,1),(1,1)]:=by kernel_rfl
def aa8:ig aY 103=some [(0,1),(1,9),(10,9),(19,1),(20,1),(21,1),(22,1),(23,1),(24,1)]:=by kernel_rfl
def aa7:ig aY 111=some [(0,1),(1,1)]:=by kernel_rfl
def aa6:ig aY 113=some [(0,1),(1,1),(2,1),(3,4),(7,1),(8,1)]:=by kernel_rfl
def aa5:ig aY 115=some [(0,1),(1,1)]:=by kernel_rfl
def aa4:ig aY 119=some [(0,1),(1,1)]:=by kernel_rfl
def aa3:ig aY 238=some [(0,1),(1,1)]:=by kernel_rfl
def cb4:aj aY 4=true:=by kernel_rfl
def cb5:aj aY 5=true:=by kernel_rfl
def cb6:aj aY 6=true:=by kernel_rfl
def cb7:aj aY 7=true:=by kernel_rfl
def adG:aj aY 10=true:=by kernel_rfl
def ab7:aj aY 11=true:=by kernel_rfl
def adF:aj aY 12=true:=by kernel_rfl
def adE:aj aY 13=true:=by kernel_rfl
def adD:aj aY 14=true:=by kernel_rfl
def abO:aj aY 15=true:=by kernel_rfl
def abL:aj aY 16=true:=by kernel_rfl
def abJ:aj aY 17=true:=by kernel_rfl
def abI:aj aY 18=true:=by kernel_rfl
def abH:aj aY 19=true:=by kernel_rfl
def Ld:aj aY 20=true:=by kernel_rfl
def adC:aj aY 21=true:=by kernel_rfl
def adB:aj aY 22=true:=by kernel_rfl
def adA:aj aY 23=true:=by kernel_rfl
def adz:aj aY 24=true:=by kernel_rfl
def ady:aj aY 25=true:=by kernel_rfl
def adx:aj aY 26=true:=by kernel_rfl
def adw:aj aY 27=true:=by kernel_rfl
def adv:aj aY 28=true:=by kernel_rfl
def S4:aj aY 29=true:=by kernel_rfl
def adu:aj aY 30=true:=by kernel_rfl
def adt:aj aY 31=true:=by kernel_rfl
def aab:aj aY 32=true:=by kernel_rfl
def ads:aj aY 33=true:=by kernel_rfl
def adr:aj aY 34=true:=by kernel_rfl
def adq:aj aY 35=true:=by kernel_rfl
def adp:aj aY 36=true:=by kernel_rfl
def ado:aj aY 37=true:=by kernel_rfl
def adn:aj aY 38=true:=by kernel_rfl
def abG:aj aY 39=true:=by kernel_rfl
def adm:aj aY 40=true:=by kernel_rfl
def adl:aj aY 41=true:=by kernel_rfl
def adk:aj aY 42=true:=by kernel_rfl
def adj:aj aY 43=true:=by kernel_rfl
def abF:aj aY 44=true:=by kernel_rfl
def abE:aj aY 45=true:=by kernel_rfl
def MW:aj aY 46=true:=by kernel_rfl
def adi:aj aY 47=true:=by kernel_rfl
def adh:aj aY 48=true:=by kernel_rfl
def adg:aj aY 49=true:=by kernel_rfl
def adf:aj aY 50=true:=by kernel_rfl
def ade:aj aY 51=true:=by kernel_rfl
def adc:aj aY 52=true:=by kernel_rfl
def adb:aj aY 53=true:=by kernel_rfl
def ada:aj aY 54=true:=by kernel_rfl
def ac9:aj aY 55=true:=by kernel_rfl
def XB:aj aY 56=true:=by kernel_rfl
def abD:aj aY 57=true:=by kernel_rfl
def abC:aj aY 58=true:=by kernel_rfl
def ac8:aj aY 59=true:=by kernel_rfl
def ac7:aj aY 60=true:=by kernel_rfl
def ac6:aj aY 61=true:=by kernel_rfl
def ac5:aj aY 62=true:=by kernel_rfl
def abB:aj aY 63=true:=by kernel_rfl
def abA:aj aY 64=true:=by kernel_rfl
def abz:aj aY 65=true:=by kernel_rfl
def ac4:aj aY 66=true:=by kernel_rfl
def ac3:aj aY 67=true:=by kernel_rfl
def ac2:aj aY 68=true:=by kernel_rfl
def ac1:aj aY 69=true:=by kernel_rfl
def aby:aj aY 70=true:=by kernel_rfl
def aaa:aj aY 71=true:=by kernel_rfl
def XA:aj aY 72=true:=by kernel_rfl
def abx:aj aY 73=true:=by kernel_rfl
def Z9:aj aY 74=true:=by kernel_rfl
def abw:aj aY 75=true:=by kernel_rfl
def ac0:aj aY 76=true:=by kernel_rfl
def abv:aj aY 77=true:=by kernel_rfl
def Z8:aj aY 78=true:=by kernel_rfl
def Xz:aj aY 79=true:=by kernel_rfl
def acZ:aj aY 80=true:=by kernel_rfl
def acY:aj aY 81=true:=by kernel_rfl
def acX:aj aY 82=true:=by kernel_rfl
def acW:aj aY 83=true:=by kernel_rfl
def acV:aj aY 84=true:=by kernel_rfl
def acU:aj aY 85=true:=by kernel_rfl
def acT:aj aY 92=true:=by kernel_rfl
def acS:aj aY 93=true:=by kernel_rfl
def acR:aj aY 94=true:=by kernel_rfl
def acQ:aj aY 95=true:=by kernel_rfl
def acP:aj aY 96=true:=by kernel_rfl
def abu:aj aY 97=true:=by kernel_rfl
def acO:aj aY 98=true:=by kernel_rfl
def acN:aj aY 99=true:=by kernel_rfl
def acf:aj aY 100=true:=by kernel_rfl
def ace:aj aY 101=true:=by kernel_rfl
def VA:aj aY 102=true:=by kernel_rfl
def acd:aj aY 103=true:=by kernel_rfl
def acc:aj aY 104=true:=by kernel_rfl
def Yf:aj aY 105=true:=by kernel_rfl
def acb:aj aY 106=true:=by kernel_rfl
def aca:aj aY 107=true:=by kernel_rfl
def ab9:aj aY 108=true:=by kernel_rfl
def ab8:aj aY 109=true:=by kernel_rfl
def ab6:aj aY 110=true:=by kernel_rfl
def ab5:aj aY 111=true:=by kernel_rfl
def ab4:aj aY 112=true:=by kernel_rfl
def ab3:aj aY 113=true:=by kernel_rfl
def ab2:aj aY 114=true:=by kernel_rfl
def Ye:aj aY 115=true:=by kernel_rfl
def ab1:aj aY 116=true:=by kernel_rfl
def ab0:aj aY 117=true:=by kernel_rfl
def abZ:aj aY 125=true:=by kernel_rfl
def abY:aj aY 126=true:=by kernel_rfl
def abX:aj aY 127=true:=by kernel_rfl
def abW:aj aY 128=true:=by kernel_rfl
def abV:aj aY 129=true:=by kernel_rfl
def abU:aj aY 130=true:=by kernel_rfl
def abT:aj aY 131=true:=by kernel_rfl
def abS:aj aY 132=true:=by kernel_rfl
def abR:aj aY 140=true:=by kernel_rfl
def abQ:aj aY 141=true:=by kernel_rfl
def abP:aj aY 142=true:=by kernel_rfl
def Yd:aj aY 143=true:=by kernel_rfl
def abN:aj aY 158=true:=by kernel_rfl
def abM:aj aY 159=true:=by kernel_rfl
def abK:aj aY 166=true:=by kernel_rfl
def zv3:ZV aY 3 (.int .i64 0):=(show(Tryz.prog.info? 3).bind (fun i=>i.zero)=some (.int .i64 0) by kernel_rfl)
def zv4:ZV aY 4 (.bool false):=(show(Tryz.prog.info? 4).bind (fun i=>i.zero)=some (.bool false) by kernel_rfl)
def aag:ZV aY 35 (.slice none 0 0):=(show(Tryz.prog.info? 35).bind (fun i=>i.zero)=some (.slice none 0 0) by kernel_rfl)
def acK:NC aY 29 (n7 (rI .i64) 2):=NC.of (by kernel_rfl) (jC (Xt (n:=1) Ce er rfl rfl (tP (n:=0) tn)) 18)
def abr:kw aY 62 cK 2:=xl (n:=1) (fs:=[(9,0,false),(9,1,false)]) (by kernel_rfl) (by kernel_rfl) rfl (Ik.cons mT rfl rfl z7 (jC (K7 (n:=0) i6) 0) (Ik.cons mT rfl rfl Eo (jC (K7 (n:=0) i6) 0) Ik.nil)) (fun x y=>by cases x;cases y;simp [Bool.decide_and])
def acJ:NC aY 62 cK:=NC.of (by kernel_rfl) (jC abr 18)
def Yc:kw aY 71 eY 2:=xl (n:=1) (fs:=[(3,0,false),(2,1,false),(69,2,false),(9,3,false)]) (by kernel_rfl) (by kernel_rfl) rfl (Ik.cons er rfl rfl xc (jC (tP (n:=0) tn) 0) (Ik.cons ti2 rfl rfl xb (jC (tP (n:=0) Tryz.underlying2) 0) (Ik.cons aaG rfl rfl O6 (jC (tP (n:=0) Tryz.underlying69) 0) (Ik.cons mT rfl rfl pO (jC (K7 (n:=0) i6) 0) Ik.nil)))) (fun x y=>by cases x;cases y;simp [Bool.decide_and])
def Xu:NC aY 71 eY:=NC.of (by kernel_rfl) (jC Yc 18)
def abq:kw aY 73 bK 3:=xl (n:=2) (fs:=[(3,0,false),(3,1,false),(3,2,false),(3,3,false),(71,4,false)]) (by kernel_rfl) (by kernel_rfl) rfl (Ik.cons er rfl rfl kX (jC (tP (n:=0) tn) 1) (Ik.cons er rfl rfl xe (jC (tP (n:=0) tn) 1) (Ik.cons er rfl rfl xd (jC (tP (n:=0) tn) 1) (Ik.cons er rfl rfl ol (jC (tP (n:=0) tn) 1) (Ik.cons yC rfl rfl uM (jC Yc 0) Ik.nil))))) (fun x y=>by cases x;cases y;simp [Bool.decide_and])
def acI:NC aY 73 bK:=NC.of (by kernel_rfl) (jC abq 17)
def Z3:kw aY 111 kB 2:=xl (n:=1) (fs:=[(3,0,false),(4,1,false)]) (by kernel_rfl) (by kernel_rfl) rfl (Ik.cons er rfl rfl UY (jC (tP (n:=0) tn) 0) (Ik.cons IX rfl rfl UX (jC (Vn (n:=0) IU) 0) Ik.nil)) (fun x y=>by cases x;cases y;simp [Bool.decide_and])
def abs:NC aY 111 kB:=NC.of (by kernel_rfl) (jC Z3 18)
def aaS:Tl aY 62 kj:=act (r:=cK) (mk:=fun p=>(⟨p.1,p.2⟩:gk)) Tryz.underlying62 rfl i6 mT rfl rfl (fun p=>⟨[_],[_],rfl,rfl,rfl⟩) (fun p q h=>by obtain⟨p1,p2⟩:=p;obtain⟨q1,q2⟩:=q;simpa using h) acJ
def aaU{S:SH}{cs:List Value}{y:gk}(h:cK.rc S cs y):cs=[ez y.Table,ez y.Name]:=by
 obtain⟨a,b,e,A,V⟩:=h
 rw [e,show a=_ from A,show b=_ from V]
 rfl
def upX:Go.Proofs.Builder.Extra aY oX:={sizeBuilder:=by kernel_rfl,liesBuilder:=by kernel_rfl,t5:=Tryz.underlying5,a5:=Tryz.isAgg5,z5:=Tryz.sizeOf5,v5:=Tryz.zeroValue5,infoByte:=by kernel_rfl,cellsByte:=by kernel_rfl,sizeByte:=by kernel_rfl,neB5:=by decide}

end Go.Proofs.YtigldkegamffhaaGreatDoor

