import Derived.Test.YtaehdhmbgmbgiaaGreatDoorKkD
import Derived.Test.YtaehdhmbgmbgiaaGreatDoorProg
import Derived.Test.YtaehdhmbgmbgiaaGreatDoorKkS
import Derived.Test.YtaehdhmbgmbgiaaGreatDoorKkV4
import Derived.KernelRfl
set_option linter.all false
namespace Go.Proofs.YtaehdhmbgmbgiaaGreatDoor
open Go
noncomputable abbrev aP:=Tryz.prog
def iG:= @Tryz.underlying44
def nP:= @Tryz.underlying31
def qp:= @Tryz.underlying49
def j6:= @Tryz.underlying45
def li:= @Tryz.underlying67
def me:= @Tryz.underlying3
def oo:= @Tryz.underlying22
def oT:= @Tryz.underlying68
def rN:= @Tryz.underlying25
def uh:= @Tryz.underlying85
def wO:= @Tryz.underlying48
def An:= @Tryz.underlying129
def B9:= @Tryz.underlying167
def A6:= @Tryz.underlying50
def FQ:= @Tryz.underlying70
def FO:= @Tryz.underlying2
def Cq:= @Tryz.underlying136
def Cp:= @Tryz.underlying255
def Eo:= @Tryz.underlying9
def F0:= @Tryz.underlying185
def FX:= @Tryz.underlying79
def NX:= @Tryz.underlying4
def NU:= @Tryz.underlying116
def mixed:Tryz.prog.follows .mixedOrders=true:=by kernel_rfl
def PC:TI aP 2 1 8 false [.int .i64 0]:=⟨by kernel_rfl,by kernel_rfl⟩
def cz:TI aP 3 1 8 false [.int .i64 0]:=⟨by kernel_rfl,by kernel_rfl⟩
def Na:TI aP 4 1 1 false [.bool false]:=⟨by kernel_rfl,by kernel_rfl⟩
def XU:TI aP 9 1 16 false [.string ⟨#[]⟩]:=⟨by kernel_rfl,by kernel_rfl⟩
def r0:TI aP 22 1 24 false [.slice none 0 0]:=⟨by kernel_rfl,by kernel_rfl⟩
def dC:TI aP 24 1 24 true [.slice none 0 0]:=⟨by kernel_rfl,by kernel_rfl⟩
def Be:TI aP 25 1 24 false [.slice none 0 0]:=⟨by kernel_rfl,by kernel_rfl⟩
def D4:TI aP 27 1 24 true [.slice none 0 0]:=⟨by kernel_rfl,by kernel_rfl⟩
def ki:TI aP 31 1 24 false [.slice none 0 0]:=⟨by kernel_rfl,by kernel_rfl⟩
def T8:TI aP 32 1 8 false [.int .i64 0]:=⟨by kernel_rfl,by kernel_rfl⟩
def alr:TI aP 40 2 48 true (List.replicate 2 (.slice none 0 0)):=⟨by kernel_rfl,by kernel_rfl⟩
def fS:TI aP 44 1 24 false [.slice none 0 0]:=⟨by kernel_rfl,by kernel_rfl⟩
def nH:TI aP 45 1 24 false [.slice none 0 0]:=⟨by kernel_rfl,by kernel_rfl⟩
def bR:TI aP 47 1 24 true [.slice none 0 0]:=⟨by kernel_rfl,by kernel_rfl⟩
def Cv:TI aP 48 1 24 false [.slice none 0 0]:=⟨by kernel_rfl,by kernel_rfl⟩
def lT:TI aP 49 1 24 false [.slice none 0 0]:=⟨by kernel_rfl,by kernel_rfl⟩
def Ge:TI aP 50 1 24 false [.slice none 0 0]:=⟨by kernel_rfl,by kernel_rfl⟩
def fL:TI aP 52 12 192 true [.int .i64 0,.int .i64 0,.int .i64 0,.int .i64 0,.slice none 0 0,.bool false,.slice none 0 0,.slice none 0 0,.slice none 0 0,.slice none 0 0,.slice none 0 0,.int .i64 0]:=⟨by kernel_rfl,by kernel_rfl⟩
def vo:TI aP 59 2 32 true [.int .i64 0,.slice none 0 0]:=⟨by kernel_rfl,by kernel_rfl⟩
def Gd:TI aP 63 2 16 true [.int .i64 0,.bool false]:=⟨by kernel_rfl,by kernel_rfl⟩
def PB:TI aP 67 1 24 false [.slice none 0 0]:=⟨by kernel_rfl,by kernel_rfl⟩
def ja:TI aP 68 1 24 false [.slice none 0 0]:=⟨by kernel_rfl,by kernel_rfl⟩
def T7:TI aP 70 1 8 false [.int .u64 0]:=⟨by kernel_rfl,by kernel_rfl⟩
def aT:TI aP 72 4 40 true [.int .i64 0,.int .i64 0,.int .u64 0,.string ⟨#[]⟩]:=⟨by kernel_rfl,by kernel_rfl⟩
def alq:TI aP 77 3 72 true [.slice none 0 0,.slice none 0 0,.slice none 0 0]:=⟨by kernel_rfl,by kernel_rfl⟩
def Zp:TI aP 84 1 8 false [.nilFunc]:=⟨by kernel_rfl,by kernel_rfl⟩
def Cd:TI aP 85 1 24 false [.slice none 0 0]:=⟨by kernel_rfl,by kernel_rfl⟩
def cq:TI aP 87 14 240 true [.slice none 0 0,.int .i64 0,.int .i64 0,.int .i64 0,.int .i64 0,.slice none 0 0,.bool false,.slice none 0 0,.slice none 0 0,.slice none 0 0,.slice none 0 0,.slice none 0 0,.int .i64 0,.slice none 0 0]:=⟨by kernel_rfl,by kernel_rfl⟩
def alp:TI aP 98 1 8 false [.nilFunc]:=⟨by kernel_rfl,by kernel_rfl⟩
def dF:TI aP 101 8 72 true [.int .i64 0,.int .i64 0,.int .i64 0,.int .i64 0,.int .i64 0,.int .i64 0,.int .u64 0,.string ⟨#[]⟩]:=⟨by kernel_rfl,by kernel_rfl⟩
def nX:TI aP 105 1 8 false [.pointer none]:=⟨by kernel_rfl,by kernel_rfl⟩
def VK:TI aP 109 1 24 false [.slice none 0 0]:=⟨by kernel_rfl,by kernel_rfl⟩
def VJ:TI aP 116 1 24 false [.slice none 0 0]:=⟨by kernel_rfl,by kernel_rfl⟩
def ID:TI aP 120 2 48 true [.slice none 0 0,.slice none 0 0]:=⟨by kernel_rfl,by kernel_rfl⟩
def yK:TI aP 129 1 24 false [.slice none 0 0]:=⟨by kernel_rfl,by kernel_rfl⟩
def aiK:TI aP 131 3 72 true [.slice none 0 0,.slice none 0 0,.slice none 0 0]:=⟨by kernel_rfl,by kernel_rfl⟩
def Gg:TI aP 136 2 16 true (List.replicate 2 (.int .i64 0)):=⟨by kernel_rfl,by kernel_rfl⟩
def VI:TI aP 167 1 8 false [.map none]:=⟨by kernel_rfl,by kernel_rfl⟩
def afd:TI aP 171 1 8 false [.nilFunc]:=⟨by kernel_rfl,by kernel_rfl⟩
def aiJ:TI aP 203 1 8 false [.nilFunc]:=⟨by kernel_rfl,by kernel_rfl⟩
def N4:TI aP 255 3 72 true (List.replicate 3 (.slice none 0 0)):=⟨by kernel_rfl,by kernel_rfl⟩
def ju:dv aP 24 0=some (0,1):=by kernel_rfl
def HU:dv aP 27 0=some (0,1):=by kernel_rfl
def fh:dv aP 47 0=some (0,1):=by kernel_rfl
def qF:dv aP 52 0=some (0,1):=by kernel_rfl
def k5:dv aP 52 1=some (1,1):=by kernel_rfl
def sH:dv aP 52 2=some (2,1):=by kernel_rfl
def BC:dv aP 52 3=some (3,1):=by kernel_rfl
def uz:dv aP 52 4=some (4,1):=by kernel_rfl
def Fq:dv aP 52 5=some (5,1):=by kernel_rfl
def oV:dv aP 52 6=some (6,1):=by kernel_rfl
def uy:dv aP 52 7=some (7,1):=by kernel_rfl
def rz:dv aP 52 8=some (8,1):=by kernel_rfl
def oK:dv aP 52 9=some (9,1):=by kernel_rfl
def tg:dv aP 52 10=some (10,1):=by kernel_rfl
def BD:dv aP 52 11=some (11,1):=by kernel_rfl
def BB:dv aP 59 0=some (0,1):=by kernel_rfl
def BA:dv aP 59 1=some (1,1):=by kernel_rfl
def Qr:dv aP 63 0=some (0,1):=by kernel_rfl
def ag3:dv aP 63 1=some (1,1):=by kernel_rfl
def kZ:dv aP 72 0=some (0,1):=by kernel_rfl
def ru:dv aP 72 1=some (1,1):=by kernel_rfl
def HT:dv aP 72 2=some (2,1):=by kernel_rfl
def Ah:dv aP 72 3=some (3,1):=by kernel_rfl
def ag2:dv aP 77 0=some (0,1):=by kernel_rfl
def wx:dv aP 77 1=some (1,1):=by kernel_rfl
def Qq:dv aP 77 2=some (2,1):=by kernel_rfl
def HS:dv aP 87 0=some (0,1):=by kernel_rfl
def m9:dv aP 87 1=some (1,12):=by kernel_rfl
def rt:dv aP 87 2=some (13,1):=by kernel_rfl
def lE:dv aP 101 0=some (0,1):=by kernel_rfl
def rK:dv aP 101 1=some (1,1):=by kernel_rfl
def rJ:dv aP 101 2=some (2,1):=by kernel_rfl
def rG:dv aP 101 3=some (3,1):=by kernel_rfl
def BE:dv aP 101 4=some (4,4):=by kernel_rfl
def acV:dv aP 120 0=some (0,1):=by kernel_rfl
def acU:dv aP 120 1=some (1,1):=by kernel_rfl
def Qs:dv aP 131 0=some (0,1):=by kernel_rfl
def qG:dv aP 131 1=some (1,1):=by kernel_rfl
def wI:dv aP 131 2=some (2,1):=by kernel_rfl
def Qk:sG aP 24=some [(0,1)]:=by kernel_rfl
def Ed:sG aP 47=some [(0,1)]:=by kernel_rfl
def SS:sG aP 52=some [(0,1),(1,1),(2,1),(3,1),(4,1),(5,1),(6,1),(7,1),(8,1),(9,1),(10,1),(11,1)]:=by kernel_rfl
def wu:sG aP 72=some [(0,1),(1,1),(2,1),(3,1)]:=by kernel_rfl
def alB:sG aP 77=some [(0,1),(1,1),(2,1)]:=by kernel_rfl
def acP:sG aP 87=some [(0,1),(1,12),(13,1)]:=by kernel_rfl
def IV:sG aP 101=some [(0,1),(1,1),(2,1),(3,1),(4,4)]:=by kernel_rfl
def afn:sG aP 120=some [(0,1),(1,1)]:=by kernel_rfl
def ai7:sG aP 131=some [(0,1),(1,1),(2,1)]:=by kernel_rfl
def cb4:ak aP 4=true:=by kernel_rfl
def cb5:ak aP 5=true:=by kernel_rfl
def cb6:ak aP 6=true:=by kernel_rfl
def cb7:ak aP 7=true:=by kernel_rfl
def cb8:ak aP 8=true:=by kernel_rfl
def cb9:ak aP 9=true:=by kernel_rfl
def amz:ak aP 10=true:=by kernel_rfl
def amy:ak aP 11=true:=by kernel_rfl
def ak0:ak aP 12=true:=by kernel_rfl
def amx:ak aP 13=true:=by kernel_rfl
def aii:ak aP 14=true:=by kernel_rfl
def amw:ak aP 15=true:=by kernel_rfl
def akw:ak aP 16=true:=by kernel_rfl
def amv:ak aP 17=true:=by kernel_rfl
def amu:ak aP 18=true:=by kernel_rfl
def amt:ak aP 19=true:=by kernel_rfl
def aih:ak aP 20=true:=by kernel_rfl
def ams:ak aP 21=true:=by kernel_rfl
def amr:ak aP 22=true:=by kernel_rfl
def amq:ak aP 23=true:=by kernel_rfl
def YN:ak aP 24=true:=by kernel_rfl
def amp:ak aP 25=true:=by kernel_rfl
def amo:ak aP 26=true:=by kernel_rfl
def amn:ak aP 27=true:=by kernel_rfl
def amm:ak aP 28=true:=by kernel_rfl
def aml:ak aP 29=true:=by kernel_rfl
def amk:ak aP 30=true:=by kernel_rfl
def amj:ak aP 31=true:=by kernel_rfl
def ami:ak aP 32=true:=by kernel_rfl
def amh:ak aP 33=true:=by kernel_rfl
def amg:ak aP 34=true:=by kernel_rfl
def ajA:ak aP 35=true:=by kernel_rfl
def ajz:ak aP 36=true:=by kernel_rfl
def aig:ak aP 37=true:=by kernel_rfl
def abm:ak aP 38=true:=by kernel_rfl
def ajy:ak aP 39=true:=by kernel_rfl
def aeK:ak aP 40=true:=by kernel_rfl
def ajx:ak aP 41=true:=by kernel_rfl
def amf:ak aP 42=true:=by kernel_rfl
def ame:ak aP 43=true:=by kernel_rfl
def amd:ak aP 44=true:=by kernel_rfl
def amc:ak aP 45=true:=by kernel_rfl
def aif:ak aP 46=true:=by kernel_rfl
def Vn:ak aP 47=true:=by kernel_rfl
def amb:ak aP 48=true:=by kernel_rfl
def ama:ak aP 49=true:=by kernel_rfl
def aie:ak aP 50=true:=by kernel_rfl
def al9:ak aP 51=true:=by kernel_rfl
def al8:ak aP 52=true:=by kernel_rfl
def ajw:ak aP 53=true:=by kernel_rfl
def ajv:ak aP 54=true:=by kernel_rfl
def al7:ak aP 55=true:=by kernel_rfl
def aid:ak aP 56=true:=by kernel_rfl
def al6:ak aP 57=true:=by kernel_rfl
def aic:ak aP 58=true:=by kernel_rfl
def al5:ak aP 59=true:=by kernel_rfl
def al4:ak aP 60=true:=by kernel_rfl
def al3:ak aP 61=true:=by kernel_rfl
def aib:ak aP 62=true:=by kernel_rfl
def aju:ak aP 63=true:=by kernel_rfl
def aia:ak aP 64=true:=by kernel_rfl
def abl:ak aP 65=true:=by kernel_rfl
def al2:ak aP 66=true:=by kernel_rfl
def al1:ak aP 67=true:=by kernel_rfl
def al0:ak aP 68=true:=by kernel_rfl
def alZ:ak aP 69=true:=by kernel_rfl
def ah9:ak aP 70=true:=by kernel_rfl
def ajt:ak aP 71=true:=by kernel_rfl
def alY:ak aP 72=true:=by kernel_rfl
def alX:ak aP 73=true:=by kernel_rfl
def alW:ak aP 74=true:=by kernel_rfl
def ah8:ak aP 75=true:=by kernel_rfl
def aeJ:ak aP 76=true:=by kernel_rfl
def alV:ak aP 77=true:=by kernel_rfl
def abk:ak aP 78=true:=by kernel_rfl
def alU:ak aP 79=true:=by kernel_rfl
def alT:ak aP 80=true:=by kernel_rfl
def alS:ak aP 81=true:=by kernel_rfl
def alR:ak aP 82=true:=by kernel_rfl
def ajs:ak aP 83=true:=by kernel_rfl
def ah7:ak aP 84=true:=by kernel_rfl
def alQ:ak aP 85=true:=by kernel_rfl
def ah6:ak aP 86=true:=by kernel_rfl
def abj:ak aP 87=true:=by kernel_rfl
def alP:ak aP 88=true:=by kernel_rfl
def ajr:ak aP 89=true:=by kernel_rfl
def alO:ak aP 90=true:=by kernel_rfl
def alN:ak aP 91=true:=by kernel_rfl
def abi:ak aP 92=true:=by kernel_rfl
def alM:ak aP 93=true:=by kernel_rfl
def alL:ak aP 94=true:=by kernel_rfl
def alK:ak aP 95=true:=by kernel_rfl
def alJ:ak aP 96=true:=by kernel_rfl
def alI:ak aP 97=true:=by kernel_rfl
def ah5:ak aP 98=true:=by kernel_rfl
def alH:ak aP 99=true:=by kernel_rfl
def O5:ak aP 100=true:=by kernel_rfl
def Xi:ak aP 101=true:=by kernel_rfl
def Xh:ak aP 102=true:=by kernel_rfl
def ale:ak aP 103=true:=by kernel_rfl
def ald:ak aP 104=true:=by kernel_rfl
def alc:ak aP 105=true:=by kernel_rfl
def alb:ak aP 106=true:=by kernel_rfl
def ala:ak aP 107=true:=by kernel_rfl
def ak9:ak aP 108=true:=by kernel_rfl
def ak8:ak aP 109=true:=by kernel_rfl
def MA:ak aP 110=true:=by kernel_rfl
def ak7:ak aP 111=true:=by kernel_rfl
def afT:ak aP 112=true:=by kernel_rfl
def afS:ak aP 113=true:=by kernel_rfl
def ak6:ak aP 114=true:=by kernel_rfl
def ak5:ak aP 115=true:=by kernel_rfl
def ak4:ak aP 116=true:=by kernel_rfl
def ak3:ak aP 117=true:=by kernel_rfl
def ak2:ak aP 118=true:=by kernel_rfl
def ak1:ak aP 119=true:=by kernel_rfl
def akZ:ak aP 120=true:=by kernel_rfl
def akY:ak aP 121=true:=by kernel_rfl
def akX:ak aP 122=true:=by kernel_rfl
def akW:ak aP 123=true:=by kernel_rfl
def akV:ak aP 124=true:=by kernel_rfl
def akU:ak aP 125=true:=by kernel_rfl
def akT:ak aP 126=true:=by kernel_rfl
def akS:ak aP 127=true:=by kernel_rfl
def akR:ak aP 128=true:=by kernel_rfl
def akQ:ak aP 129=true:=by kernel_rfl
def akP:ak aP 130=true:=by kernel_rfl
def akO:ak aP 131=true:=by kernel_rfl
def akN:ak aP 132=true:=by kernel_rfl
def akM:ak aP 133=true:=by kernel_rfl
def akL:ak aP 134=true:=by kernel_rfl
def Xg:ak aP 135=true:=by kernel_rfl
def akK:ak aP 136=true:=by kernel_rfl
def Xf:ak aP 137=true:=by kernel_rfl
def akJ:ak aP 138=true:=by kernel_rfl
def akI:ak aP 141=true:=by kernel_rfl
def akH:ak aP 142=true:=by kernel_rfl
def akG:ak aP 143=true:=by kernel_rfl
def abv:ak aP 144=true:=by kernel_rfl
def akF:ak aP 145=true:=by kernel_rfl
def akE:ak aP 146=true:=by kernel_rfl
def afR:ak aP 147=true:=by kernel_rfl
def akD:ak aP 148=true:=by kernel_rfl
def akC:ak aP 149=true:=by kernel_rfl
def akB:ak aP 150=true:=by kernel_rfl
def abu:ak aP 151=true:=by kernel_rfl
def afQ:ak aP 152=true:=by kernel_rfl
def akA:ak aP 153=true:=by kernel_rfl
def afP:ak aP 154=true:=by kernel_rfl
def afO:ak aP 155=true:=by kernel_rfl
def akz:ak aP 156=true:=by kernel_rfl
def afN:ak aP 157=true:=by kernel_rfl
def aky:ak aP 158=true:=by kernel_rfl
def akx:ak aP 159=true:=by kernel_rfl
def afM:ak aP 160=true:=by kernel_rfl
def abt:ak aP 161=true:=by kernel_rfl
def akv:ak aP 162=true:=by kernel_rfl
def aku:ak aP 163=true:=by kernel_rfl
def afL:ak aP 164=true:=by kernel_rfl
def akt:ak aP 165=true:=by kernel_rfl
def O4:ak aP 166=true:=by kernel_rfl
def aks:ak aP 167=true:=by kernel_rfl
def abs:ak aP 168=true:=by kernel_rfl
def afK:ak aP 169=true:=by kernel_rfl
def abr:ak aP 170=true:=by kernel_rfl
def akr:ak aP 171=true:=by kernel_rfl
def akq:ak aP 172=true:=by kernel_rfl
def akp:ak aP 173=true:=by kernel_rfl
def ako:ak aP 174=true:=by kernel_rfl
def akn:ak aP 175=true:=by kernel_rfl
def afJ:ak aP 176=true:=by kernel_rfl
def afI:ak aP 177=true:=by kernel_rfl
def akm:ak aP 178=true:=by kernel_rfl
def akl:ak aP 179=true:=by kernel_rfl
def akk:ak aP 180=true:=by kernel_rfl
def akj:ak aP 181=true:=by kernel_rfl
def aki:ak aP 182=true:=by kernel_rfl
def afH:ak aP 183=true:=by kernel_rfl
def akh:ak aP 184=true:=by kernel_rfl
def akg:ak aP 185=true:=by kernel_rfl
def abq:ak aP 186=true:=by kernel_rfl
def akf:ak aP 187=true:=by kernel_rfl
def ake:ak aP 188=true:=by kernel_rfl
def akd:ak aP 189=true:=by kernel_rfl
def akc:ak aP 190=true:=by kernel_rfl
def akb:ak aP 191=true:=by kernel_rfl
def Xe:ak aP 202=true:=by kernel_rfl
def abp:ak aP 203=true:=by kernel_rfl
def aka:ak aP 204=true:=by kernel_rfl
def aj9:ak aP 205=true:=by kernel_rfl
def aj8:ak aP 207=true:=by kernel_rfl
def afG:ak aP 208=true:=by kernel_rfl
def aj7:ak aP 209=true:=by kernel_rfl
def aj6:ak aP 210=true:=by kernel_rfl
def abo:ak aP 211=true:=by kernel_rfl
def aj5:ak aP 212=true:=by kernel_rfl
def aj4:ak aP 213=true:=by kernel_rfl
def Xd:ak aP 214=true:=by kernel_rfl
def aj3:ak aP 215=true:=by kernel_rfl
def aj2:ak aP 216=true:=by kernel_rfl
def aj1:ak aP 217=true:=by kernel_rfl
def aj0:ak aP 218=true:=by kernel_rfl
def Xc:ak aP 219=true:=by kernel_rfl
def afF:ak aP 220=true:=by kernel_rfl
def ajZ:ak aP 221=true:=by kernel_rfl
def ajY:ak aP 222=true:=by kernel_rfl
def ajX:ak aP 223=true:=by kernel_rfl
def ajW:ak aP 224=true:=by kernel_rfl
def ajV:ak aP 225=true:=by kernel_rfl
def ajU:ak aP 226=true:=by kernel_rfl
def ajT:ak aP 227=true:=by kernel_rfl
def afE:ak aP 228=true:=by kernel_rfl
def afD:ak aP 229=true:=by kernel_rfl
def afC:ak aP 230=true:=by kernel_rfl
def ajS:ak aP 231=true:=by kernel_rfl
def abn:ak aP 232=true:=by kernel_rfl
def ajR:ak aP 233=true:=by kernel_rfl
def ajQ:ak aP 234=true:=by kernel_rfl
def ajP:ak aP 235=true:=by kernel_rfl
def afB:ak aP 236=true:=by kernel_rfl
def afA:ak aP 237=true:=by kernel_rfl
def afz:ak aP 238=true:=by kernel_rfl
def afy:ak aP 239=true:=by kernel_rfl
def ajO:ak aP 240=true:=by kernel_rfl
def ajN:ak aP 241=true:=by kernel_rfl
def ajM:ak aP 242=true:=by kernel_rfl
def ajL:ak aP 243=true:=by kernel_rfl
def ajK:ak aP 244=true:=by kernel_rfl
def afx:ak aP 260=true:=by kernel_rfl
def ajJ:ak aP 261=true:=by kernel_rfl
def ajI:ak aP 262=true:=by kernel_rfl
def ajH:ak aP 263=true:=by kernel_rfl
def ajG:ak aP 264=true:=by kernel_rfl
def ajF:ak aP 265=true:=by kernel_rfl
def ajE:ak aP 266=true:=by kernel_rfl
def afw:ak aP 267=true:=by kernel_rfl
def ajD:ak aP 268=true:=by kernel_rfl
def ajC:ak aP 273=true:=by kernel_rfl
def ajB:ak aP 275=true:=by kernel_rfl
def zv4:ZV aP 4 (.bool false):=(show(Tryz.prog.info? 4).bind (fun i=>i.zero)=some (.bool false) by kernel_rfl)
def alm:ZV aP 78 (.nilFunc):=(show(Tryz.prog.info? 78).bind (fun i=>i.zero)=some (.nilFunc) by kernel_rfl)
def alj:ZV aP 93 (.nilFunc):=(show(Tryz.prog.info? 93).bind (fun i=>i.zero)=some (.nilFunc) by kernel_rfl)
def ae5:ZV aP 171 (.nilFunc):=(show(Tryz.prog.info? 171).bind (fun i=>i.zero)=some (.nilFunc) by kernel_rfl)
def aip:ZV aP 184 (.nilFunc):=(show(Tryz.prog.info? 184).bind (fun i=>i.zero)=some (.nilFunc) by kernel_rfl)
def ajk:pf aP 63 fM 2:=Fv (n:=1) (fs:=[(3,0,false),(4,1,false)]) (by kernel_rfl) (by kernel_rfl) rfl (Pi.cons cz rfl rfl C1 (oN (ye (n:=0) me) 0) (Pi.cons Na rfl rfl SX (oN (aa1 (n:=0) NX) 0) Pi.nil)) (fun x y=>by cases x;cases y;simp [Bool.decide_and])
def alD:Zc aP 63 fM:=Zc.of (by kernel_rfl) (oN ajk 18)
def aft:pf aP 72 ah 2:=Fv (n:=1) (fs:=[(3,0,false),(2,1,false),(70,2,false),(9,3,false)]) (by kernel_rfl) (by kernel_rfl) rfl (Pi.cons cz rfl rfl eg (oN (ye (n:=0) me) 0) (Pi.cons PC rfl rfl jX (oN (ye (n:=0) FO) 0) (Pi.cons T7 rfl rfl wv (oN (ye (n:=0) FQ) 0) (Pi.cons XU rfl rfl pj (oN (aey (n:=0) Eo) 0) Pi.nil)))) (fun x y=>by cases x;cases y;simp [Bool.decide_and])
def Vb:Zc aP 72 ah:=Zc.of (by kernel_rfl) (oN aft 18)
def ahY:pf aP 101 aJ 3:=Fv (n:=2) (fs:=[(3,0,false),(3,1,false),(3,2,false),(3,3,false),(72,4,false)]) (by kernel_rfl) (by kernel_rfl) rfl (Pi.cons cz rfl rfl fy (oN (ye (n:=0) me) 1) (Pi.cons cz rfl rfl qD (oN (ye (n:=0) me) 1) (Pi.cons cz rfl rfl qC (oN (ye (n:=0) me) 1) (Pi.cons cz rfl rfl lD (oN (ye (n:=0) me) 1) (Pi.cons aT rfl rfl pn (oN aft 0) Pi.nil))))) (fun x y=>by cases x;cases y;simp [Bool.decide_and])
def afu:Zc aP 101 aJ:=Zc.of (by kernel_rfl) (oN ahY 17)
def ajl:Zc aP 136 (tE (rI .i64) 2):=Zc.of (by kernel_rfl) (oN (aez (n:=1) Cq cz rfl rfl (ye (n:=0) me)) 18)
