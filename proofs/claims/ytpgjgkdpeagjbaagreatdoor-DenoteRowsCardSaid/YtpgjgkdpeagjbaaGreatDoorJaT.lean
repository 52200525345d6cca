/- eJ of this claim: T. -/
import Derived.Test.YtpgjgkdpeagjbaaGreatDoorJaD
import Derived.Test.YtpgjgkdpeagjbaaGreatDoorProg
import Derived.Test.YtpgjgkdpeagjbaaGreatDoorJaS
import Derived.Test.YtpgjgkdpeagjbaaGreatDoorJaV4
import Derived.KernelRfl
set_option linter.all false
namespace Go.Proofs.YtpgjgkdpeagjbaaGreatDoor
open Go
noncomputable abbrev aU:=Tryz.prog
def eK:= @Tryz.underlying32
def fz:= @Tryz.underlying39
def nD:= @Tryz.underlying54
def jE:= @Tryz.underlying53
def lr:= @Tryz.underlying25
def mK:= @Tryz.underlying3
def qC:= @Tryz.underlying40
def rK:= @Tryz.underlying232
def tm:= @Tryz.underlying22
def uz:= @Tryz.underlying43
def vk:= @Tryz.underlying44
def xv:= @Tryz.underlying55
def xP:= @Tryz.underlying106
def xu:= @Tryz.underlying45
def yJ:= @Tryz.underlying9
def zT:= @Tryz.underlying143
def xO:= @Tryz.underlying2
def Cu:= @Tryz.underlying93
def Do:= @Tryz.underlying4
def Dn:= @Tryz.underlying169
def Dl:= @Tryz.underlying67

def mixed:Tryz.prog.follows .mixedOrders=true:=by kernel_rfl
def wd:TI aU 2 1 8 false [.int .i64 0]:=⟨by kernel_rfl,by kernel_rfl⟩
def cj:TI aU 3 1 8 false [.int .i64 0]:=⟨by kernel_rfl,by kernel_rfl⟩
def zZ:TI aU 4 1 1 false [.bool false]:=⟨by kernel_rfl,by kernel_rfl⟩
def EL:TI aU 9 1 16 false [.string ⟨#[]⟩]:=⟨by kernel_rfl,by kernel_rfl⟩
def wR:TI aU 22 1 24 false [.slice none 0 0]:=⟨by kernel_rfl,by kernel_rfl⟩
def ny:TI aU 24 1 24 true [.slice none 0 0]:=⟨by kernel_rfl,by kernel_rfl⟩
def q6:TI aU 25 1 24 false [.slice none 0 0]:=⟨by kernel_rfl,by kernel_rfl⟩
def xz:TI aU 27 1 24 true [.slice none 0 0]:=⟨by kernel_rfl,by kernel_rfl⟩
def gb:TI aU 32 1 24 false [.slice none 0 0]:=⟨by kernel_rfl,by kernel_rfl⟩
def PR:TI aU 33 1 8 false [.int .i64 0]:=⟨by kernel_rfl,by kernel_rfl⟩
def eQ:TI aU 39 1 24 false [.slice none 0 0]:=⟨by kernel_rfl,by kernel_rfl⟩
def uD:TI aU 40 1 24 false [.slice none 0 0]:=⟨by kernel_rfl,by kernel_rfl⟩
def jk:TI aU 42 1 24 true [.slice none 0 0]:=⟨by kernel_rfl,by kernel_rfl⟩
def zY:TI aU 43 1 24 false [.slice none 0 0]:=⟨by kernel_rfl,by kernel_rfl⟩
def zX:TI aU 44 1 24 false [.slice none 0 0]:=⟨by kernel_rfl,by kernel_rfl⟩
def Cy:TI aU 45 1 24 false [.slice none 0 0]:=⟨by kernel_rfl,by kernel_rfl⟩
def iE:TI aU 47 12 192 true [.int .i64 0,.int .i64 0,.int .i64 0,.int .i64 0,.slice none 0 0,.bool false,.slice none 0 0,.slice none 0 0,.slice none 0 0,.slice none 0 0,.slice none 0 0,.int .i64 0]:=⟨by kernel_rfl,by kernel_rfl⟩
def vu:TI aU 50 2 32 true [.int .i64 0,.slice none 0 0]:=⟨by kernel_rfl,by kernel_rfl⟩
def Ln:TI aU 53 1 24 false [.slice none 0 0]:=⟨by kernel_rfl,by kernel_rfl⟩
def cP:TI aU 54 1 24 false [.slice none 0 0]:=⟨by kernel_rfl,by kernel_rfl⟩
def hU:TI aU 55 1 8 false [.int .u64 0]:=⟨by kernel_rfl,by kernel_rfl⟩
def an:TI aU 57 4 40 true [.int .i64 0,.int .i64 0,.int .u64 0,.string ⟨#[]⟩]:=⟨by kernel_rfl,by kernel_rfl⟩
def afZ:TI aU 65 3 72 true [.slice none 0 0,.slice none 0 0,.slice none 0 0]:=⟨by kernel_rfl,by kernel_rfl⟩
def nw:TI aU 81 8 72 true [.int .i64 0,.int .i64 0,.int .i64 0,.int .i64 0,.int .i64 0,.int .i64 0,.int .u64 0,.string ⟨#[]⟩]:=⟨by kernel_rfl,by kernel_rfl⟩
def q5:TI aU 83 1 8 false [.pointer none]:=⟨by kernel_rfl,by kernel_rfl⟩
def Xn:TI aU 86 1 24 false [.slice none 0 0]:=⟨by kernel_rfl,by kernel_rfl⟩
def Xm:TI aU 93 1 24 false [.slice none 0 0]:=⟨by kernel_rfl,by kernel_rfl⟩
def BO:TI aU 97 2 48 true [.slice none 0 0,.slice none 0 0]:=⟨by kernel_rfl,by kernel_rfl⟩
def we:TI aU 106 1 24 false [.slice none 0 0]:=⟨by kernel_rfl,by kernel_rfl⟩
def adm:TI aU 108 3 72 true [.slice none 0 0,.slice none 0 0,.slice none 0 0]:=⟨by kernel_rfl,by kernel_rfl⟩
def adl:TI aU 131 1 8 false [.nilFunc]:=⟨by kernel_rfl,by kernel_rfl⟩
def Rl:TI aU 143 1 8 false [.map none]:=⟨by kernel_rfl,by kernel_rfl⟩
def Z7:TI aU 147 1 8 false [.nilFunc]:=⟨by kernel_rfl,by kernel_rfl⟩
def zF:TI aU 154 2 16 true [.int .i64 0,.bool false]:=⟨by kernel_rfl,by kernel_rfl⟩
def adk:TI aU 184 1 8 false [.nilFunc]:=⟨by kernel_rfl,by kernel_rfl⟩
def Nu:TI aU 216 2 16 true (List.replicate 2 (.int .i64 0)):=⟨by kernel_rfl,by kernel_rfl⟩
def UP:TI aU 232 8 64 true (List.replicate 8 (.int .u64 0)):=⟨by kernel_rfl,by kernel_rfl⟩
def hM:TI aU 234 9 72 true [.int .u64 0,.int .u64 0,.int .u64 0,.int .u64 0,.int .u64 0,.int .u64 0,.int .u64 0,.int .u64 0,.bool false]:=⟨by kernel_rfl,by kernel_rfl⟩
def mM:dl aU 24 0=some (0,1):=by kernel_rfl
def oO:dl aU 27 0=some (0,1):=by kernel_rfl
def la:dl aU 42 0=some (0,1):=by kernel_rfl
def oN:dl aU 47 0=some (0,1):=by kernel_rfl
def iO:dl aU 47 1=some (1,1):=by kernel_rfl
def mL:dl aU 47 2=some (2,1):=by kernel_rfl
def qX:dl aU 47 3=some (3,1):=by kernel_rfl
def pU:dl aU 47 4=some (4,1):=by kernel_rfl
def Il:dl aU 47 5=some (5,1):=by kernel_rfl
def rZ:dl aU 47 6=some (6,1):=by kernel_rfl
def pT:dl aU 47 7=some (7,1):=by kernel_rfl
def oM:dl aU 47 8=some (8,1):=by kernel_rfl
def pS:dl aU 47 9=some (9,1):=by kernel_rfl
def pX:dl aU 47 10=some (10,1):=by kernel_rfl
def vE:dl aU 47 11=some (11,1):=by kernel_rfl
def pR:dl aU 50 0=some (0,1):=by kernel_rfl
def xH:dl aU 50 1=some (1,1):=by kernel_rfl
def cY:dl aU 57 0=some (0,1):=by kernel_rfl
def fC:dl aU 57 1=some (1,1):=by kernel_rfl
def rY:dl aU 57 2=some (2,1):=by kernel_rfl
def k7:dl aU 57 3=some (3,1):=by kernel_rfl
def abL:dl aU 65 0=some (0,1):=by kernel_rfl
def ub:dl aU 65 1=some (1,1):=by kernel_rfl
def Mk:dl aU 65 2=some (2,1):=by kernel_rfl
def lX:dl aU 81 0=some (0,1):=by kernel_rfl
def E5:dl aU 81 1=some (1,1):=by kernel_rfl
def AV:dl aU 81 2=some (2,1):=by kernel_rfl
def qW:dl aU 81 3=some (3,1):=by kernel_rfl
def wB:dl aU 81 4=some (4,4):=by kernel_rfl
def VH:dl aU 97 0=some (0,1):=by kernel_rfl
def QF:dl aU 97 1=some (1,1):=by kernel_rfl
def Ml:dl aU 108 0=some (0,1):=by kernel_rfl
def oP:dl aU 108 1=some (1,1):=by kernel_rfl
def uv:dl aU 108 2=some (2,1):=by kernel_rfl
def xm:dl aU 154 0=some (0,1):=by kernel_rfl
def RZ:dl aU 154 1=some (1,1):=by kernel_rfl
def ik:dl aU 234 0=some (0,8):=by kernel_rfl
def na:dl aU 234 1=some (8,1):=by kernel_rfl
def abJ:n7 aU 24=some [(0,1)]:=by kernel_rfl
def af7:n7 aU 27=some [(0,1)]:=by kernel_rfl
def abI:n7 aU 42=some [(0,1)]:=by kernel_rfl
def adH:n7 aU 47=some [(0,1),(1,1),(2,1),(3,1),(4,1),(5,1),(6,1),(7,1),(8,1),(9,1),(10,1),(11,1)]:=by kernel_rfl
def adG:n7 aU 50=some [(0,1),(1,1)]:=by kernel_rfl
def jg:n7 aU 57=some [(0,1),(1,1),(2,1),(3,1)]:=by kernel_rfl
def af6:n7 aU 65=some [(0,1),(1,1),(2,1)]:=by kernel_rfl
def af5:n7 aU 81=some [(0,1),(1,1),(2,1),(3,1),(4,4)]:=by kernel_rfl
def XY:n7 aU 97=some [(0,1),(1,1)]:=by kernel_rfl
def adI:n7 aU 108=some [(0,1),(1,1),(2,1)]:=by kernel_rfl
def aai:n7 aU 234=some [(0,8),(8,1)]:=by kernel_rfl
def cb4:aj aU 4=true:=by kernel_rfl
def cb5:aj aU 5=true:=by kernel_rfl
def cb6:aj aU 6=true:=by kernel_rfl
def cb7:aj aU 7=true:=by kernel_rfl
def cb8:aj aU 8=true:=by kernel_rfl
def cb9:aj aU 9=true:=by kernel_rfl
def ahe:aj aU 10=true:=by kernel_rfl
def afJ:aj aU 11=true:=by kernel_rfl
def ahd:aj aU 12=true:=by kernel_rfl
def ahc:aj aU 13=true:=by kernel_rfl
def ahb:aj aU 14=true:=by kernel_rfl
def aha:aj aU 15=true:=by kernel_rfl
def ag9:aj aU 16=true:=by kernel_rfl
def ag8:aj aU 17=true:=by kernel_rfl
def ag7:aj aU 18=true:=by kernel_rfl
def acV:aj aU 19=true:=by kernel_rfl
def ZG:aj aU 20=true:=by kernel_rfl
def aeM:aj aU 21=true:=by kernel_rfl
def ag6:aj aU 22=true:=by kernel_rfl
def ag5:aj aU 23=true:=by kernel_rfl
def ag4:aj aU 24=true:=by kernel_rfl
def ag3:aj aU 25=true:=by kernel_rfl
def ag2:aj aU 26=true:=by kernel_rfl
def ag1:aj aU 27=true:=by kernel_rfl
def ag0:aj aU 28=true:=by kernel_rfl
def agZ:aj aU 29=true:=by kernel_rfl
def agY:aj aU 30=true:=by kernel_rfl
def agX:aj aU 31=true:=by kernel_rfl
def agW:aj aU 32=true:=by kernel_rfl
def agV:aj aU 33=true:=by kernel_rfl
def agU:aj aU 34=true:=by kernel_rfl
def Wi:aj aU 35=true:=by kernel_rfl
def agT:aj aU 36=true:=by kernel_rfl
def agS:aj aU 37=true:=by kernel_rfl
def ZF:aj aU 38=true:=by kernel_rfl
def agQ:aj aU 39=true:=by kernel_rfl
def aee:aj aU 40=true:=by kernel_rfl
def acU:aj aU 41=true:=by kernel_rfl
def agO:aj aU 42=true:=by kernel_rfl
def aed:aj aU 43=true:=by kernel_rfl
def aec:aj aU 44=true:=by kernel_rfl
def agN:aj aU 45=true:=by kernel_rfl
def acT:aj aU 46=true:=by kernel_rfl
def agM:aj aU 47=true:=by kernel_rfl
def acS:aj aU 48=true:=by kernel_rfl
def agL:aj aU 49=true:=by kernel_rfl
def agK:aj aU 50=true:=by kernel_rfl
def agJ:aj aU 51=true:=by kernel_rfl
def acR:aj aU 52=true:=by kernel_rfl
def aeb:aj aU 53=true:=by kernel_rfl
def agI:aj aU 54=true:=by kernel_rfl
def Wh:aj aU 55=true:=by kernel_rfl
def Wg:aj aU 56=true:=by kernel_rfl
def Er:aj aU 57=true:=by kernel_rfl
def ZE:aj aU 58=true:=by kernel_rfl
def Wf:aj aU 59=true:=by kernel_rfl
def We:aj aU 60=true:=by kernel_rfl
def agH:aj aU 61=true:=by kernel_rfl
def agG:aj aU 62=true:=by kernel_rfl
def agF:aj aU 63=true:=by kernel_rfl
def agE:aj aU 64=true:=by kernel_rfl
def agD:aj aU 65=true:=by kernel_rfl
def agC:aj aU 66=true:=by kernel_rfl
def aea:aj aU 67=true:=by kernel_rfl
def MN:aj aU 68=true:=by kernel_rfl
def agB:aj aU 69=true:=by kernel_rfl
def agA:aj aU 70=true:=by kernel_rfl
def agz:aj aU 71=true:=by kernel_rfl
def agy:aj aU 72=true:=by kernel_rfl
def agx:aj aU 73=true:=by kernel_rfl
def ad9:aj aU 74=true:=by kernel_rfl
def acQ:aj aU 75=true:=by kernel_rfl
def agw:aj aU 76=true:=by kernel_rfl
def acP:aj aU 77=true:=by kernel_rfl
def ZD:aj aU 78=true:=by kernel_rfl
def Wd:aj aU 79=true:=by kernel_rfl
def agv:aj aU 80=true:=by kernel_rfl
def ad8:aj aU 81=true:=by kernel_rfl
def agu:aj aU 82=true:=by kernel_rfl
def agt:aj aU 83=true:=by kernel_rfl
def Wc:aj aU 84=true:=by kernel_rfl
def agr:aj aU 85=true:=by kernel_rfl
def agq:aj aU 86=true:=by kernel_rfl
def agp:aj aU 87=true:=by kernel_rfl
def ago:aj aU 88=true:=by kernel_rfl
def agn:aj aU 89=true:=by kernel_rfl
def acO:aj aU 90=true:=by kernel_rfl
def agm:aj aU 91=true:=by kernel_rfl
def acN:aj aU 92=true:=by kernel_rfl
def ad7:aj aU 93=true:=by kernel_rfl
def ZC:aj aU 94=true:=by kernel_rfl
def agl:aj aU 95=true:=by kernel_rfl
def agk:aj aU 96=true:=by kernel_rfl
def agj:aj aU 97=true:=by kernel_rfl
def agi:aj aU 98=true:=by kernel_rfl
def agh:aj aU 99=true:=by kernel_rfl
def afQ:aj aU 100=true:=by kernel_rfl
def Wx:aj aU 101=true:=by kernel_rfl
def afP:aj aU 102=true:=by kernel_rfl
def Ww:aj aU 103=true:=by kernel_rfl
def afO:aj aU 104=true:=by kernel_rfl
def afN:aj aU 105=true:=by kernel_rfl
def afM:aj aU 106=true:=by kernel_rfl
def afL:aj aU 107=true:=by kernel_rfl
def aaT:aj aU 108=true:=by kernel_rfl
def afK:aj aU 109=true:=by kernel_rfl
def Wv:aj aU 110=true:=by kernel_rfl
def IJ:aj aU 111=true:=by kernel_rfl
def aaS:aj aU 112=true:=by kernel_rfl
def afI:aj aU 113=true:=by kernel_rfl
def afH:aj aU 114=true:=by kernel_rfl
def aaR:aj aU 115=true:=by kernel_rfl
def aaQ:aj aU 116=true:=by kernel_rfl
def afG:aj aU 117=true:=by kernel_rfl
def afF:aj aU 118=true:=by kernel_rfl
def afE:aj aU 119=true:=by kernel_rfl
def afD:aj aU 120=true:=by kernel_rfl
def afC:aj aU 121=true:=by kernel_rfl
def afB:aj aU 122=true:=by kernel_rfl
def afA:aj aU 123=true:=by kernel_rfl
def afz:aj aU 124=true:=by kernel_rfl
def afy:aj aU 125=true:=by kernel_rfl
def afx:aj aU 126=true:=by kernel_rfl
def afw:aj aU 127=true:=by kernel_rfl
def afv:aj aU 128=true:=by kernel_rfl
def afu:aj aU 129=true:=by kernel_rfl
def Wu:aj aU 130=true:=by kernel_rfl
def aft:aj aU 131=true:=by kernel_rfl
def SX:aj aU 132=true:=by kernel_rfl
def afs:aj aU 133=true:=by kernel_rfl
def afr:aj aU 136=true:=by kernel_rfl
def afq:aj aU 137=true:=by kernel_rfl
def afp:aj aU 138=true:=by kernel_rfl
def afo:aj aU 139=true:=by kernel_rfl
def afn:aj aU 140=true:=by kernel_rfl
def Wt:aj aU 141=true:=by kernel_rfl
def afm:aj aU 142=true:=by kernel_rfl
def afl:aj aU 143=true:=by kernel_rfl
def aaP:aj aU 144=true:=by kernel_rfl
def afk:aj aU 145=true:=by kernel_rfl
def afj:aj aU 146=true:=by kernel_rfl
def afi:aj aU 147=true:=by kernel_rfl
def afh:aj aU 148=true:=by kernel_rfl
def Ws:aj aU 149=true:=by kernel_rfl
def aaO:aj aU 150=true:=by kernel_rfl
def afg:aj aU 151=true:=by kernel_rfl
def aaN:aj aU 152=true:=by kernel_rfl
def aaM:aj aU 153=true:=by kernel_rfl
def aff:aj aU 154=true:=by kernel_rfl
def aaL:aj aU 155=true:=by kernel_rfl
def afe:aj aU 156=true:=by kernel_rfl
def afd:aj aU 157=true:=by kernel_rfl
def aaK:aj aU 158=true:=by kernel_rfl
def Wr:aj aU 159=true:=by kernel_rfl
def afc:aj aU 160=true:=by kernel_rfl
def afb:aj aU 161=true:=by kernel_rfl
def aaJ:aj aU 162=true:=by kernel_rfl
def afa:aj aU 163=true:=by kernel_rfl
def SW:aj aU 164=true:=by kernel_rfl
def ae9:aj aU 165=true:=by kernel_rfl
def ae8:aj aU 166=true:=by kernel_rfl
def ae7:aj aU 167=true:=by kernel_rfl
def aaI:aj aU 168=true:=by kernel_rfl
def ae6:aj aU 169=true:=by kernel_rfl
def KL:aj aU 170=true:=by kernel_rfl
def ae5:aj aU 171=true:=by kernel_rfl
def aaH:aj aU 172=true:=by kernel_rfl
def F5:aj aU 173=true:=by kernel_rfl
def ae4:aj aU 174=true:=by kernel_rfl
def ae3:aj aU 175=true:=by kernel_rfl
def ae2:aj aU 176=true:=by kernel_rfl
def ae1:aj aU 177=true:=by kernel_rfl
def ae0:aj aU 178=true:=by kernel_rfl
def aaG:aj aU 179=true:=by kernel_rfl
def aeZ:aj aU 180=true:=by kernel_rfl
def aeY:aj aU 181=true:=by kernel_rfl
def Wq:aj aU 182=true:=by kernel_rfl
def aeX:aj aU 183=true:=by kernel_rfl
def aeW:aj aU 184=true:=by kernel_rfl
def aeV:aj aU 185=true:=by kernel_rfl
def aeU:aj aU 186=true:=by kernel_rfl
def aeT:aj aU 187=true:=by kernel_rfl
def aaF:aj aU 198=true:=by kernel_rfl
def aaE:aj aU 199=true:=by kernel_rfl
def aeS:aj aU 200=true:=by kernel_rfl
def aeR:aj aU 201=true:=by kernel_rfl
def SV:aj aU 202=true:=by kernel_rfl
def Wp:aj aU 203=true:=by kernel_rfl
def aeQ:aj aU 204=true:=by kernel_rfl
def aeP:aj aU 205=true:=by kernel_rfl
def aeO:aj aU 207=true:=by kernel_rfl
def aaD:aj aU 208=true:=by kernel_rfl
def aeN:aj aU 209=true:=by kernel_rfl
def aeL:aj aU 210=true:=by kernel_rfl
def Wo:aj aU 211=true:=by kernel_rfl
def aeK:aj aU 212=true:=by kernel_rfl
def aeJ:aj aU 213=true:=by kernel_rfl
def SU:aj aU 214=true:=by kernel_rfl
def aeI:aj aU 215=true:=by kernel_rfl
def aeH:aj aU 216=true:=by kernel_rfl
def aeG:aj aU 217=true:=by kernel_rfl
def aeF:aj aU 218=true:=by kernel_rfl
def ST:aj aU 219=true:=by kernel_rfl
def aaC:aj aU 220=true:=by kernel_rfl
def aeE:aj aU 221=true:=by kernel_rfl
def aeD:aj aU 222=true:=by kernel_rfl
def aeC:aj aU 223=true:=by kernel_rfl
def aeB:aj aU 224=true:=by kernel_rfl
def aeA:aj aU 225=true:=by kernel_rfl
def aez:aj aU 226=true:=by kernel_rfl
def Wn:aj aU 227=true:=by kernel_rfl
def SS:aj aU 228=true:=by kernel_rfl
def Pc:aj aU 229=true:=by kernel_rfl
def II:aj aU 230=true:=by kernel_rfl
def aaB:aj aU 231=true:=by kernel_rfl
def aey:aj aU 232=true:=by kernel_rfl
def IH:aj aU 233=true:=by kernel_rfl
def aex:aj aU 234=true:=by kernel_rfl
def aaA:aj aU 235=true:=by kernel_rfl
def Wm:aj aU 236=true:=by kernel_rfl
def aaz:aj aU 237=true:=by kernel_rfl
def Co:aj aU 238=true:=by kernel_rfl
def Wl:aj aU 239=true:=by kernel_rfl
def SR:aj aU 240=true:=by kernel_rfl
def Pb:aj aU 241=true:=by kernel_rfl
def aew:aj aU 242=true:=by kernel_rfl
def aev:aj aU 243=true:=by kernel_rfl
def aeu:aj aU 244=true:=by kernel_rfl
def aet:aj aU 245=true:=by kernel_rfl
def aes:aj aU 246=true:=by kernel_rfl
def aer:aj aU 247=true:=by kernel_rfl
def aay:aj aU 253=true:=by kernel_rfl
def aax:aj aU 254=true:=by kernel_rfl
def aaw:aj aU 255=true:=by kernel_rfl
def aav:aj aU 256=true:=by kernel_rfl
def aau:aj aU 267=true:=by kernel_rfl
def aeq:aj aU 268=true:=by kernel_rfl
def aep:aj aU 269=true:=by kernel_rfl
def aeo:aj aU 270=true:=by kernel_rfl
def aen:aj aU 271=true:=by kernel_rfl
def aem:aj aU 272=true:=by kernel_rfl
def ael:aj aU 273=true:=by kernel_rfl
def aek:aj aU 274=true:=by kernel_rfl
def Wk:aj aU 275=true:=by kernel_rfl
def aat:aj aU 276=true:=by kernel_rfl
def SQ:aj aU 277=true:=by kernel_rfl
def aar:aj aU 278=true:=by kernel_rfl
def aej:aj aU 279=true:=by kernel_rfl
def Wj:aj aU 280=true:=by kernel_rfl
def aei:aj aU 281=true:=by kernel_rfl
def aeh:aj aU 286=true:=by kernel_rfl
def aeg:aj aU 287=true:=by kernel_rfl
def aaq:aj aU 288=true:=by kernel_rfl
def aap:aj aU 289=true:=by kernel_rfl
def aef:aj aU 291=true:=by kernel_rfl
def afV:ZV aU 66 (.nilFunc):=(show(Tryz.prog.info? 66).bind (fun i=>i.zero)=some (.nilFunc) by kernel_rfl)
def Z0:ZV aU 147 (.nilFunc):=(show(Tryz.prog.info? 147).bind (fun i=>i.zero)=some (.nilFunc) by kernel_rfl)
def acZ:ZV aU 168 (.nilFunc):=(show(Tryz.prog.info? 168).bind (fun i=>i.zero)=some (.nilFunc) by kernel_rfl)
def adY:tz aU 57 ae 2:=QO (n:=1) (fs:=[(3,0,false),(2,1,false),(55,2,false),(9,3,false)]) (by kernel_rfl) (by kernel_rfl) rfl (WS.cons cj rfl rfl bC (wN (D8 (n:=0) mK) 0) (WS.cons wd rfl rfl cE (wN (D8 (n:=0) xO) 0) (WS.cons hU rfl rfl jo (wN (D8 (n:=0) xv) 0) (WS.cons EL rfl rfl eH (wN (Zw (n:=0) yJ) 0) WS.nil)))) (fun x y=>by cases x;cases y;simp [Bool.decide_and])
def Iw:Xa aU 57 ae:=Xa.of (by kernel_rfl) (wN adY 18)
def ad0:Xa aU 216 (qH (rI .i64) 2):=Xa.of (by kernel_rfl) (wN (SJ (n:=1) Tryz.underlying216 cj rfl rfl (D8 (n:=0) mK)) 18)
def adZ:Xa aU 232 (qH (rI .u64) 8):=Xa.of (by kernel_rfl) (wN (SJ (n:=1) rK hU rfl rfl (D8 (n:=0) xv)) 18)

end Go.Proofs.YtpgjgkdpeagjbaaGreatDoor

