/- bS of this claim: T. -/
import Derived.Test.YtdohlidddcgfjaaGreatFfD
import Derived.Test.YtdohlidddcgfjaaGreatProg
import Derived.Test.YtdohlidddcgfjaaGreatFfS
import Derived.Test.YtdohlidddcgfjaaGreatFfV4
import Derived.KernelRfl
set_option linter.all false
namespace Go.Proofs.YtdohlidddcgfjaaGreat
open Go
noncomputable abbrev aY:=Tryz.prog
def fD:= @Tryz.underlying69
def oh:= @Tryz.underlying37
def lz:= @Tryz.underlying3
def qG:= @Tryz.underlying85
def sK:= @Tryz.underlying82
def uj:= @Tryz.underlying68
def uZ:= @Tryz.underlying5
def vm:= @Tryz.underlying27
def xe:= @Tryz.underlying22
def xr:= @Tryz.underlying86
def y8:= @Tryz.underlying87
def zG:= @Tryz.underlying26
def AA:= @Tryz.underlying102
def Dh:= @Tryz.underlying169
def Dg:= @Tryz.underlying74
def FT:= @Tryz.underlying133
def FS:= @Tryz.underlying9
def HQ:= @Tryz.underlying152
def D7:= @Tryz.underlying25
def CK:= @Tryz.underlying2
def D6:= @Tryz.underlying186
def D5:= @Tryz.underlying209
def JE:= @Tryz.underlying4
def Gx:= @Tryz.underlying207

def mixed:Tryz.prog.follows .mixedOrders=true:=by kernel_rfl
def RU:TI aY 2 1 8 false [.int .i64 0]:=⟨by kernel_rfl,by kernel_rfl⟩
def b9:TI aY 3 1 8 false [.int .i64 0]:=⟨by kernel_rfl,by kernel_rfl⟩
def Aw:TI aY 4 1 1 false [.bool false]:=⟨by kernel_rfl,by kernel_rfl⟩
def qL:TI aY 5 1 1 false [.int .u8 0]:=⟨by kernel_rfl,by kernel_rfl⟩
def WM:TI aY 9 1 16 false [.string ⟨#[]⟩]:=⟨by kernel_rfl,by kernel_rfl⟩
def Ik:TI aY 22 1 24 false [.slice none 0 0]:=⟨by kernel_rfl,by kernel_rfl⟩
def Dl:TI aY 24 1 24 true [.slice none 0 0]:=⟨by kernel_rfl,by kernel_rfl⟩
def re:TI aY 25 1 4 false [.int .u32 0]:=⟨by kernel_rfl,by kernel_rfl⟩
def pN:TI aY 26 1 8 false [.int .u64 0]:=⟨by kernel_rfl,by kernel_rfl⟩
def Ij:TI aY 27 1 24 false [.slice none 0 0]:=⟨by kernel_rfl,by kernel_rfl⟩
def X0:TI aY 29 3 40 true [.slice none 0 0,.bool false,.int .u64 0]:=⟨by kernel_rfl,by kernel_rfl⟩
def sP:TI aY 31 7 72 true [.int .i64 0,.int .u32 0,.int .u64 0,.int .u64 0,.slice none 0 0,.bool false,.int .u64 0]:=⟨by kernel_rfl,by kernel_rfl⟩
def zO:TI aY 32 1 8 false [.int .i64 0]:=⟨by kernel_rfl,by kernel_rfl⟩
def jc:TI aY 34 15 152 true [.int .i64 0,.int .i64 0,.int .i64 0,.int .i64 0,.int .i64 0,.int .i64 0,.slice none 0 0,.int .i64 0,.int .u32 0,.int .u64 0,.int .u64 0,.slice none 0 0,.bool false,.int .u64 0,.int .i64 0]:=⟨by kernel_rfl,by kernel_rfl⟩
def qa:TI aY 37 1 24 false [.slice none 0 0]:=⟨by kernel_rfl,by kernel_rfl⟩
def acZ:TI aY 60 1 24 true [.slice none 0 0]:=⟨by kernel_rfl,by kernel_rfl⟩
def aaw:TI aY 62 6 48 true (List.replicate 6 (.int .i64 0)):=⟨by kernel_rfl,by kernel_rfl⟩
def FY:TI aY 68 1 24 false [.slice none 0 0]:=⟨by kernel_rfl,by kernel_rfl⟩
def dc:TI aY 69 1 24 false [.slice none 0 0]:=⟨by kernel_rfl,by kernel_rfl⟩
def qF:TI aY 71 4 64 true [.slice none 0 0,.int .i64 0,.int .i64 0,.slice none 0 0]:=⟨by kernel_rfl,by kernel_rfl⟩
def UG:TI aY 74 1 24 false [.slice none 0 0]:=⟨by kernel_rfl,by kernel_rfl⟩
def sO:TI aY 77 1 8 false [.pointer none]:=⟨by kernel_rfl,by kernel_rfl⟩
def B2:TI aY 82 1 24 false [.slice none 0 0]:=⟨by kernel_rfl,by kernel_rfl⟩
def lc:TI aY 84 1 24 true [.slice none 0 0]:=⟨by kernel_rfl,by kernel_rfl⟩
def xh:TI aY 85 1 24 false [.slice none 0 0]:=⟨by kernel_rfl,by kernel_rfl⟩
def Ii:TI aY 86 1 24 false [.slice none 0 0]:=⟨by kernel_rfl,by kernel_rfl⟩
def Ih:TI aY 87 1 24 false [.slice none 0 0]:=⟨by kernel_rfl,by kernel_rfl⟩
def gB:TI aY 89 12 192 true [.int .i64 0,.int .i64 0,.int .i64 0,.int .i64 0,.slice none 0 0,.bool false,.slice none 0 0,.slice none 0 0,.slice none 0 0,.slice none 0 0,.slice none 0 0,.int .i64 0]:=⟨by kernel_rfl,by kernel_rfl⟩
def CT:TI aY 102 1 24 false [.slice none 0 0]:=⟨by kernel_rfl,by kernel_rfl⟩
def di:TI aY 104 4 40 true [.int .i64 0,.int .i64 0,.int .u64 0,.string ⟨#[]⟩]:=⟨by kernel_rfl,by kernel_rfl⟩
def tH:TI aY 113 2 16 true [.int .i64 0,.bool false]:=⟨by kernel_rfl,by kernel_rfl⟩
def kR:TI aY 115 2 32 true [.int .i64 0,.slice none 0 0]:=⟨by kernel_rfl,by kernel_rfl⟩
def RV:TI aY 120 1 8 false [.nilFunc]:=⟨by kernel_rfl,by kernel_rfl⟩
def kx:TI aY 143 1 8 false [.pointer none]:=⟨by kernel_rfl,by kernel_rfl⟩
def aaA:TI aY 146 3 40 true [.pointer none,.slice none 0 0,.bool false]:=⟨by kernel_rfl,by kernel_rfl⟩
def GH:TI aY 152 256 1024 true (List.replicate 256 (.int .u32 0)):=⟨by kernel_rfl,by kernel_rfl⟩
def jC:TI aY 160 8 72 true [.int .i64 0,.int .i64 0,.int .i64 0,.int .i64 0,.int .i64 0,.int .i64 0,.int .u64 0,.string ⟨#[]⟩]:=⟨by kernel_rfl,by kernel_rfl⟩
def Eh:TI aY 166 1 8 false [.pointer none]:=⟨by kernel_rfl,by kernel_rfl⟩
def aaz:TI aY 168 18 336 true [.slice none 0 0,.slice none 0 0,.slice none 0 0,.int .i64 0,.int .i64 0,.int .i64 0,.int .i64 0,.slice none 0 0,.bool false,.slice none 0 0,.slice none 0 0,.slice none 0 0,.slice none 0 0,.slice none 0 0,.int .i64 0,.slice none 0 0,.slice none 0 0,.slice none 0 0]:=⟨by kernel_rfl,by kernel_rfl⟩
def aay:TI aY 183 3 40 true [.int .i64 0,.int .i64 0,.slice none 0 0]:=⟨by kernel_rfl,by kernel_rfl⟩
def GG:TI aY 186 1 24 false [.slice none 0 0]:=⟨by kernel_rfl,by kernel_rfl⟩
def zh:TI aY 209 2 16 true (List.replicate 2 (.int .i64 0)):=⟨by kernel_rfl,by kernel_rfl⟩
def aax:TI aY 250 3 24 true [.pointer none,.int .i64 0,.bool false]:=⟨by kernel_rfl,by kernel_rfl⟩
def wD:bK aY 24 0=some (0,1):=by kernel_rfl
def wC:bK aY 29 0=some (0,1):=by kernel_rfl
def wB:bK aY 29 1=some (1,1):=by kernel_rfl
def yn:bK aY 29 2=some (2,1):=by kernel_rfl
def Fm:bK aY 31 0=some (0,1):=by kernel_rfl
def IU:bK aY 31 1=some (1,1):=by kernel_rfl
def Ak:bK aY 31 2=some (2,1):=by kernel_rfl
def Aj:bK aY 31 3=some (3,1):=by kernel_rfl
def oT:bK aY 31 4=some (4,3):=by kernel_rfl
def ym:bK aY 34 0=some (0,1):=by kernel_rfl
def Fl:bK aY 34 1=some (1,1):=by kernel_rfl
def Fk:bK aY 34 2=some (2,1):=by kernel_rfl
def Cs:bK aY 34 3=some (3,1):=by kernel_rfl
def yl:bK aY 34 4=some (4,1):=by kernel_rfl
def Ai:bK aY 34 5=some (5,1):=by kernel_rfl
def Ah:bK aY 34 6=some (6,1):=by kernel_rfl
def wA:bK aY 34 7=some (7,7):=by kernel_rfl
def yk:bK aY 34 8=some (14,1):=by kernel_rfl
def oS:bK aY 60 0=some (0,1):=by kernel_rfl
def Af:bK aY 71 0=some (0,1):=by kernel_rfl
def Fj:bK aY 71 1=some (1,1):=by kernel_rfl
def Fi:bK aY 71 2=some (2,1):=by kernel_rfl
def Cr:bK aY 71 3=some (3,1):=by kernel_rfl
def rF:bK aY 84 0=some (0,1):=by kernel_rfl
def mb:bK aY 89 0=some (0,1):=by kernel_rfl
def sD:bK aY 89 1=some (1,1):=by kernel_rfl
def t8:bK aY 89 2=some (2,1):=by kernel_rfl
def wy:bK aY 89 3=some (3,1):=by kernel_rfl
def q5:bK aY 89 4=some (4,1):=by kernel_rfl
def Fh:bK aY 89 5=some (5,1):=by kernel_rfl
def ve:bK aY 89 6=some (6,1):=by kernel_rfl
def qj:bK aY 89 7=some (7,1):=by kernel_rfl
def nT:bK aY 89 8=some (8,1):=by kernel_rfl
def wx:bK aY 89 9=some (9,1):=by kernel_rfl
def sZ:bK aY 89 10=some (10,1):=by kernel_rfl
def wz:bK aY 89 11=some (11,1):=by kernel_rfl
def q6:bK aY 104 0=some (0,1):=by kernel_rfl
def rZ:bK aY 104 1=some (1,1):=by kernel_rfl
def IX:bK aY 104 2=some (2,1):=by kernel_rfl
def wH:bK aY 104 3=some (3,1):=by kernel_rfl
def IW:bK aY 113 0=some (0,1):=by kernel_rfl
def Vx:bK aY 113 1=some (1,1):=by kernel_rfl
def px:bK aY 115 0=some (0,1):=by kernel_rfl
def s5:bK aY 115 1=some (1,1):=by kernel_rfl
def mw:bK aY 146 0=some (0,1):=by kernel_rfl
def OW:bK aY 146 1=some (1,1):=by kernel_rfl
def uO:bK aY 146 2=some (2,1):=by kernel_rfl
def mv:bK aY 160 0=some (0,1):=by kernel_rfl
def DL:bK aY 160 1=some (1,1):=by kernel_rfl
def DK:bK aY 160 2=some (2,1):=by kernel_rfl
def uN:bK aY 160 3=some (3,1):=by kernel_rfl
def wG:bK aY 160 4=some (4,4):=by kernel_rfl
def IV:bK aY 168 0=some (0,1):=by kernel_rfl
def DI:bK aY 168 1=some (1,1):=by kernel_rfl
def s0:bK aY 168 2=some (2,1):=by kernel_rfl
def ie:bK aY 168 3=some (3,12):=by kernel_rfl
def jO:bK aY 168 4=some (15,1):=by kernel_rfl
def BA:bK aY 168 5=some (16,1):=by kernel_rfl
def gk:bK aY 168 6=some (17,1):=by kernel_rfl
def wF:bK aY 181 0=some (0,1):=by kernel_rfl
def wE:bK aY 181 1=some (1,1):=by kernel_rfl
def n8:bK aY 183 0=some (0,2):=by kernel_rfl
def DH:bK aY 183 1=some (2,1):=by kernel_rfl
def lT:bK aY 250 0=some (0,1):=by kernel_rfl
def OV:bK aY 250 1=some (1,1):=by kernel_rfl
def yV:bK aY 250 2=some (2,1):=by kernel_rfl
def aaV:jp aY 24=some [(0,1)]:=by kernel_rfl
def ac7:jp aY 29=some [(0,1),(1,1),(2,1)]:=by kernel_rfl
def Yw:jp aY 31=some [(0,1),(1,1),(2,1),(3,1),(4,3)]:=by kernel_rfl
def K9:jp aY 34=some [(0,1),(1,1),(2,1),(3,1),(4,1),(5,1),(6,1),(7,7),(14,1)]:=by kernel_rfl
def ac6:jp aY 60=some [(0,1)]:=by kernel_rfl
def aaT:jp aY 71=some [(0,1),(1,1),(2,1),(3,1)]:=by kernel_rfl
def ac5:jp aY 84=some [(0,1)]:=by kernel_rfl
def ac4:jp aY 89=some [(0,1),(1,1),(2,1),(3,1),(4,1),(5,1),(6,1),(7,1),(8,1),(9,1),(10,1),(11,1)]:=by kernel_rfl
def Td:jp aY 104=some [(0,1),(1,1),(2,1),(3,1)]:=by kernel_rfl
def aa1:jp aY 113=some [(0,1),(1,1)]:=by kernel_rfl
def aa0:jp aY 115=some [(0,1),(1,1)]:=by kernel_rfl
def aaZ:jp aY 146=some [(0,1),(1,1),(2,1)]:=by kernel_rfl
def aaY:jp aY 160=some [(0,1),(1,1),(2,1),(3,1),(4,4)]:=by kernel_rfl
def aaX:jp aY 168=some [(0,1),(1,1),(2,1),(3,12),(15,1),(16,1),(17,1)]:=by kernel_rfl
def aaW:jp aY 183=some [(0,2),(2,1)]:=by kernel_rfl
def aaU:jp aY 250=some [(0,1),(1,1),(2,1)]:=by kernel_rfl
def adM:ak aY 10=true:=by kernel_rfl
def adL:ak aY 11=true:=by kernel_rfl
def acF:ak aY 12=true:=by kernel_rfl
def Wp:ak aY 14=true:=by kernel_rfl
def acl:ak aY 17=true:=by kernel_rfl
def adK:ak aY 19=true:=by kernel_rfl
def ZI:ak aY 25=true:=by kernel_rfl
def Wo:ak aY 27=true:=by kernel_rfl
def adJ:ak aY 28=true:=by kernel_rfl
def abp:ak aY 29=true:=by kernel_rfl
def adI:ak aY 30=true:=by kernel_rfl
def adH:ak aY 31=true:=by kernel_rfl
def adG:ak aY 32=true:=by kernel_rfl
def adF:ak aY 39=true:=by kernel_rfl
def adE:ak aY 40=true:=by kernel_rfl
def adD:ak aY 41=true:=by kernel_rfl
def adC:ak aY 43=true:=by kernel_rfl
def adB:ak aY 44=true:=by kernel_rfl
def adA:ak aY 45=true:=by kernel_rfl
def adz:ak aY 50=true:=by kernel_rfl
def ady:ak aY 51=true:=by kernel_rfl
def adx:ak aY 54=true:=by kernel_rfl
def abo:ak aY 55=true:=by kernel_rfl
def adw:ak aY 56=true:=by kernel_rfl
def adv:ak aY 57=true:=by kernel_rfl
def adu:ak aY 58=true:=by kernel_rfl
def xl:ak aY 59=true:=by kernel_rfl
def adt:ak aY 60=true:=by kernel_rfl
def Wn:ak aY 61=true:=by kernel_rfl
def abn:ak aY 62=true:=by kernel_rfl
def ads:ak aY 63=true:=by kernel_rfl
def abm:ak aY 64=true:=by kernel_rfl
def adr:ak aY 65=true:=by kernel_rfl
def ZH:ak aY 66=true:=by kernel_rfl
def adq:ak aY 67=true:=by kernel_rfl
def adp:ak aY 68=true:=by kernel_rfl
def ZG:ak aY 69=true:=by kernel_rfl
def ado:ak aY 70=true:=by kernel_rfl
def adn:ak aY 71=true:=by kernel_rfl
def adm:ak aY 72=true:=by kernel_rfl
def adl:ak aY 73=true:=by kernel_rfl
def adk:ak aY 74=true:=by kernel_rfl
def ZF:ak aY 80=true:=by kernel_rfl
def adj:ak aY 81=true:=by kernel_rfl
def adi:ak aY 82=true:=by kernel_rfl
def ZC:ak aY 83=true:=by kernel_rfl
def abl:ak aY 84=true:=by kernel_rfl
def adh:ak aY 85=true:=by kernel_rfl
def adg:ak aY 86=true:=by kernel_rfl
def ZB:ak aY 87=true:=by kernel_rfl
def adf:ak aY 88=true:=by kernel_rfl
def ade:ak aY 89=true:=by kernel_rfl
def ZA:ak aY 90=true:=by kernel_rfl
def abk:ak aY 97=true:=by kernel_rfl
def adc:ak aY 98=true:=by kernel_rfl
def s8:ak aY 99=true:=by kernel_rfl
def acM:ak aY 100=true:=by kernel_rfl
def BG:ak aY 101=true:=by kernel_rfl
def HB:ak aY 102=true:=by kernel_rfl
def Xx:ak aY 105=true:=by kernel_rfl
def Pg:ak aY 106=true:=by kernel_rfl
def acL:ak aY 112=true:=by kernel_rfl
def acK:ak aY 113=true:=by kernel_rfl
def acJ:ak aY 114=true:=by kernel_rfl
def acI:ak aY 115=true:=by kernel_rfl
def HA:ak aY 116=true:=by kernel_rfl
def Xw:ak aY 117=true:=by kernel_rfl
def acH:ak aY 118=true:=by kernel_rfl
def acG:ak aY 119=true:=by kernel_rfl
def acE:ak aY 126=true:=by kernel_rfl
def acD:ak aY 127=true:=by kernel_rfl
def T0:ak aY 128=true:=by kernel_rfl
def acC:ak aY 129=true:=by kernel_rfl
def Pf:ak aY 130=true:=by kernel_rfl
def Hz:ak aY 136=true:=by kernel_rfl
def Pe:ak aY 137=true:=by kernel_rfl
def acB:ak aY 138=true:=by kernel_rfl
def acA:ak aY 139=true:=by kernel_rfl
def acz:ak aY 140=true:=by kernel_rfl
def Fv:ak aY 141=true:=by kernel_rfl
def TZ:ak aY 144=true:=by kernel_rfl
def Fu:ak aY 145=true:=by kernel_rfl
def acy:ak aY 146=true:=by kernel_rfl
def Xv:ak aY 147=true:=by kernel_rfl
def Xu:ak aY 148=true:=by kernel_rfl
def acx:ak aY 154=true:=by kernel_rfl
def acw:ak aY 155=true:=by kernel_rfl
def acv:ak aY 156=true:=by kernel_rfl
def acu:ak aY 157=true:=by kernel_rfl
def act:ak aY 158=true:=by kernel_rfl
def Xt:ak aY 159=true:=by kernel_rfl
def acs:ak aY 160=true:=by kernel_rfl
def acr:ak aY 163=true:=by kernel_rfl
def acq:ak aY 164=true:=by kernel_rfl
def acp:ak aY 165=true:=by kernel_rfl
def aco:ak aY 166=true:=by kernel_rfl
def Xs:ak aY 167=true:=by kernel_rfl
def acn:ak aY 168=true:=by kernel_rfl
def acm:ak aY 169=true:=by kernel_rfl
def ack:ak aY 170=true:=by kernel_rfl
def acj:ak aY 171=true:=by kernel_rfl
def aci:ak aY 172=true:=by kernel_rfl
def ach:ak aY 173=true:=by kernel_rfl
def acg:ak aY 174=true:=by kernel_rfl
def acf:ak aY 175=true:=by kernel_rfl
def ace:ak aY 176=true:=by kernel_rfl
def Xr:ak aY 177=true:=by kernel_rfl
def Pd:ak aY 181=true:=by kernel_rfl
def acd:ak aY 182=true:=by kernel_rfl
def Pc:ak aY 183=true:=by kernel_rfl
def acc:ak aY 184=true:=by kernel_rfl
def acb:ak aY 185=true:=by kernel_rfl
def aca:ak aY 186=true:=by kernel_rfl
def ab9:ak aY 187=true:=by kernel_rfl
def ab8:ak aY 188=true:=by kernel_rfl
def yv:ak aY 189=true:=by kernel_rfl
def Xq:ak aY 190=true:=by kernel_rfl
def ab7:ak aY 191=true:=by kernel_rfl
def ab6:ak aY 192=true:=by kernel_rfl
def Xp:ak aY 193=true:=by kernel_rfl
def ab5:ak aY 197=true:=by kernel_rfl
def ab4:ak aY 198=true:=by kernel_rfl
def ab3:ak aY 199=true:=by kernel_rfl
def ab2:ak aY 200=true:=by kernel_rfl
def ab1:ak aY 202=true:=by kernel_rfl
def ab0:ak aY 203=true:=by kernel_rfl
def abZ:ak aY 204=true:=by kernel_rfl
def Xo:ak aY 205=true:=by kernel_rfl
def Pb:ak aY 206=true:=by kernel_rfl
def abY:ak aY 207=true:=by kernel_rfl
def abX:ak aY 208=true:=by kernel_rfl
def abW:ak aY 209=true:=by kernel_rfl
def BF:ak aY 210=true:=by kernel_rfl
def Xn:ak aY 214=true:=by kernel_rfl
def abV:ak aY 215=true:=by kernel_rfl
def Xm:ak aY 216=true:=by kernel_rfl
def abU:ak aY 217=true:=by kernel_rfl
def abT:ak aY 218=true:=by kernel_rfl
def abS:ak aY 219=true:=by kernel_rfl
def TY:ak aY 220=true:=by kernel_rfl
def Xl:ak aY 221=true:=by kernel_rfl
def zB:ak aY 222=true:=by kernel_rfl
def abR:ak aY 223=true:=by kernel_rfl
def abQ:ak aY 224=true:=by kernel_rfl
def abP:ak aY 225=true:=by kernel_rfl
def abO:ak aY 228=true:=by kernel_rfl
def abN:ak aY 229=true:=by kernel_rfl
def abM:ak aY 230=true:=by kernel_rfl
def abL:ak aY 231=true:=by kernel_rfl
def abK:ak aY 232=true:=by kernel_rfl
def Xk:ak aY 233=true:=by kernel_rfl
def abJ:ak aY 234=true:=by kernel_rfl
def abI:ak aY 235=true:=by kernel_rfl
def abH:ak aY 236=true:=by kernel_rfl
def abG:ak aY 237=true:=by kernel_rfl
def abF:ak aY 238=true:=by kernel_rfl
def abE:ak aY 239=true:=by kernel_rfl
def abD:ak aY 242=true:=by kernel_rfl
def Pa:ak aY 243=true:=by kernel_rfl
def abC:ak aY 244=true:=by kernel_rfl
def Xj:ak aY 245=true:=by kernel_rfl
def abB:ak aY 248=true:=by kernel_rfl
def abA:ak aY 249=true:=by kernel_rfl
def abz:ak aY 250=true:=by kernel_rfl
def aby:ak aY 251=true:=by kernel_rfl
def abx:ak aY 252=true:=by kernel_rfl
def abw:ak aY 253=true:=by kernel_rfl
def Xi:ak aY 254=true:=by kernel_rfl
def abv:ak aY 257=true:=by kernel_rfl
def abu:ak aY 258=true:=by kernel_rfl
def abt:ak aY 259=true:=by kernel_rfl
def abs:ak aY 260=true:=by kernel_rfl
def abr:ak aY 264=true:=by kernel_rfl
def abq:ak aY 265=true:=by kernel_rfl
def Z7:ZV aY 132 (.nilFunc):=(show(Tryz.prog.info? 132).bind (fun i=>i.zero)=some (.nilFunc) by kernel_rfl)
def Z6:ZV aY 172 (.nilFunc):=(show(Tryz.prog.info? 172).bind (fun i=>i.zero)=some (.nilFunc) by kernel_rfl)
def ac9:LU aY 62 (nQ (rI .i64) 6):=LU.of (by kernel_rfl) (kE (O6 (n:=1) Tryz.underlying62 b9 rfl rfl (r0 (n:=0) lz)) 18)
def TO:lA aY 104 bg 2:=Ao (n:=1) (fs:=[(3,0,false),(2,1,false),(26,2,false),(9,3,false)]) (by kernel_rfl) (by kernel_rfl) rfl (HH.cons b9 rfl rfl oK (kE (r0 (n:=0) lz) 0) (HH.cons RU rfl rfl rE (kE (r0 (n:=0) CK) 0) (HH.cons pN rfl rfl Fa (kE (r0 (n:=0) zG) 0) (HH.cons WM rfl rfl rD (kE (Wg (n:=0) FS) 0) HH.nil)))) (fun x y=>by cases x;cases y;simp [Bool.decide_and])
def O7:LU aY 104 bg:=LU.of (by kernel_rfl) (kE TO 18)
def Zy:lA aY 113 iE 2:=Ao (n:=1) (fs:=[(3,0,false),(4,1,false)]) (by kernel_rfl) (by kernel_rfl) rfl (HH.cons b9 rfl rfl Bt (kE (r0 (n:=0) lz) 0) (HH.cons Aw rfl rfl Lh (kE (TN (n:=0) JE) 0) HH.nil)) (fun x y=>by cases x;cases y;simp [Bool.decide_and])
def abf:LU aY 113 iE:=LU.of (by kernel_rfl) (kE Zy 18)
def Zx:lA aY 160 bC 3:=Ao (n:=2) (fs:=[(3,0,false),(3,1,false),(3,2,false),(3,3,false),(104,4,false)]) (by kernel_rfl) (by kernel_rfl) rfl (HH.cons b9 rfl rfl gy (kE (r0 (n:=0) lz) 1) (HH.cons b9 rfl rfl Fc (kE (r0 (n:=0) lz) 1) (HH.cons b9 rfl rfl Fb (kE (r0 (n:=0) lz) 1) (HH.cons b9 rfl rfl oP (kE (r0 (n:=0) lz) 1) (HH.cons di rfl rfl qh (kE TO 0) HH.nil))))) (fun x y=>by cases x;cases y;simp [Bool.decide_and])
def abe:LU aY 160 bC:=LU.of (by kernel_rfl) (kE Zx 17)
def Xf:LU aY 209 (nQ (rI .i64) 2):=LU.of (by kernel_rfl) (kE (O6 (n:=1) D5 b9 rfl rfl (r0 (n:=0) lz)) 18)

end Go.Proofs.YtdohlidddcgfjaaGreat

