/- co of this claim: T. -/
import Derived.Test.YtmogpgcfognefaaGreatDoorNeD
import Derived.Test.YtmogpgcfognefaaGreatDoorProg
import Derived.Test.YtmogpgcfognefaaGreatDoorNeS
import Derived.Test.YtmogpgcfognefaaGreatDoorNeV4
import Derived.Shelf.Strings.CaseAny
import Derived.KernelRfl
set_option linter.all false
namespace Go.Proofs.YtmogpgcfognefaaGreatDoor
open Go
noncomputable abbrev aM:=Tryz.prog
def dm:= @Tryz.underlying29
def ou:= @Tryz.underlying3
def jB:= @Tryz.underlying43
def kc:= @Tryz.underlying9
def pX:= @Tryz.underlying77
def qy:= @Tryz.underlying25
def su:= @Tryz.underlying35
def ss:= @Tryz.underlying46
def sX:= @Tryz.underlying47
def sW:= @Tryz.underlying78
def um:= @Tryz.underlying153
def uj:= @Tryz.underlying51
def uh:= @Tryz.underlying62
def xj:= @Tryz.underlying38
def Ar:= @Tryz.underlying125
def Aq:= @Tryz.underlying166
def CK:= @Tryz.underlying80
def Bd:= @Tryz.underlying61
def Es:= @Tryz.underlying199
def CJ:= @Tryz.underlying22
def Er:= @Tryz.underlying238
def CH:= @Tryz.underlying2
def Ep:= @Tryz.underlying48
def Di:= @Tryz.underlying4
def Dh:= @Tryz.underlying5
def Dc:= @Tryz.underlying74
def FP:= @Tryz.underlying90

theorem mixed:Tryz.prog.follows .mixedOrders=true:=by kernel_rfl
theorem Ky:TI aM 2 1 8 false [.int .i64 0]:=⟨by kernel_rfl,by kernel_rfl⟩
theorem bJ:TI aM 3 1 8 false [.int .i64 0]:=⟨by kernel_rfl,by kernel_rfl⟩
theorem LU:TI aM 4 1 1 false [.bool false]:=⟨by kernel_rfl,by kernel_rfl⟩
theorem Ok:TI aM 5 1 1 false [.int .u8 0]:=⟨by kernel_rfl,by kernel_rfl⟩
theorem ED:TI aM 9 1 16 false [.string ⟨#[]⟩]:=⟨by kernel_rfl,by kernel_rfl⟩
theorem Kx:TI aM 22 1 24 false [.slice none 0 0]:=⟨by kernel_rfl,by kernel_rfl⟩
theorem rX:TI aM 24 1 24 true [.slice none 0 0]:=⟨by kernel_rfl,by kernel_rfl⟩
theorem AB:TI aM 25 1 24 false [.slice none 0 0]:=⟨by kernel_rfl,by kernel_rfl⟩
theorem ce:TI aM 29 1 24 false [.slice none 0 0]:=⟨by kernel_rfl,by kernel_rfl⟩
theorem lg:TI aM 31 4 64 true [.slice none 0 0,.int .i64 0,.int .i64 0,.slice none 0 0]:=⟨by kernel_rfl,by kernel_rfl⟩
theorem wO:TI aM 35 1 24 false [.slice none 0 0]:=⟨by kernel_rfl,by kernel_rfl⟩
theorem rW:TI aM 37 1 24 true [.slice none 0 0]:=⟨by kernel_rfl,by kernel_rfl⟩
theorem F4:TI aM 38 1 24 false [.slice none 0 0]:=⟨by kernel_rfl,by kernel_rfl⟩
theorem s6:TI aM 40 3 64 true [.string ⟨#[]⟩,.slice none 0 0,.slice none 0 0]:=⟨by kernel_rfl,by kernel_rfl⟩
theorem p8:TI aM 42 2 24 true [.string ⟨#[]⟩,.int .i64 0]:=⟨by kernel_rfl,by kernel_rfl⟩
theorem lU:TI aM 43 1 24 false [.slice none 0 0]:=⟨by kernel_rfl,by kernel_rfl⟩
theorem gj:TI aM 45 1 24 true [.slice none 0 0]:=⟨by kernel_rfl,by kernel_rfl⟩
theorem yT:TI aM 46 1 24 false [.slice none 0 0]:=⟨by kernel_rfl,by kernel_rfl⟩
theorem CT:TI aM 47 1 24 false [.slice none 0 0]:=⟨by kernel_rfl,by kernel_rfl⟩
theorem Mg:TI aM 48 1 24 false [.slice none 0 0]:=⟨by kernel_rfl,by kernel_rfl⟩
theorem eC:TI aM 50 12 192 true [.int .i64 0,.int .i64 0,.int .i64 0,.int .i64 0,.slice none 0 0,.bool false,.slice none 0 0,.slice none 0 0,.slice none 0 0,.slice none 0 0,.slice none 0 0,.int .i64 0]:=⟨by kernel_rfl,by kernel_rfl⟩
theorem fe:TI aM 55 2 32 true [.int .i64 0,.slice none 0 0]:=⟨by kernel_rfl,by kernel_rfl⟩
theorem AA:TI aM 61 2 16 true (List.replicate 2 (.int .i64 0)):=⟨by kernel_rfl,by kernel_rfl⟩
theorem CS:TI aM 62 1 24 false [.slice none 0 0]:=⟨by kernel_rfl,by kernel_rfl⟩
theorem Sx:TI aM 74 1 24 false [.slice none 0 0]:=⟨by kernel_rfl,by kernel_rfl⟩
theorem EF:TI aM 77 1 24 false [.slice none 0 0]:=⟨by kernel_rfl,by kernel_rfl⟩
theorem EE:TI aM 78 1 24 false [.slice none 0 0]:=⟨by kernel_rfl,by kernel_rfl⟩
theorem Sw:TI aM 80 1 8 false [.int .u64 0]:=⟨by kernel_rfl,by kernel_rfl⟩
theorem bt:TI aM 82 4 40 true [.int .i64 0,.int .i64 0,.int .u64 0,.string ⟨#[]⟩]:=⟨by kernel_rfl,by kernel_rfl⟩
theorem p7:TI aM 85 1 4 false [.int .u32 0]:=⟨by kernel_rfl,by kernel_rfl⟩
theorem Xs:TI aM 93 24 384 true [.int .i64 0,.int .i64 0,.int .i64 0,.int .i64 0,.slice none 0 0,.bool false,.slice none 0 0,.slice none 0 0,.slice none 0 0,.slice none 0 0,.slice none 0 0,.int .i64 0,.int .i64 0,.int .i64 0,.int .i64 0,.int .i64 0,.slice none 0 0,.bool false,.slice none 0 0,.slice none 0 0,.slice none 0 0,.slice none 0 0,.slice none 0 0,.int .i64 0]:=⟨by kernel_rfl,by kernel_rfl⟩
theorem Mf:TI aM 94 4 32 true (List.replicate 4 (.int .i64 0)):=⟨by kernel_rfl,by kernel_rfl⟩
theorem kC:TI aM 107 2 32 true [.int .i64 0,.slice none 0 0]:=⟨by kernel_rfl,by kernel_rfl⟩
theorem Do:TI aM 111 2 16 true [.int .i64 0,.bool false]:=⟨by kernel_rfl,by kernel_rfl⟩
theorem wo:TI aM 113 1 8 false [.pointer none]:=⟨by kernel_rfl,by kernel_rfl⟩
theorem Bo:TI aM 122 1 8 false [.pointer none]:=⟨by kernel_rfl,by kernel_rfl⟩
theorem Ut:TI aM 124 18 336 true [.slice none 0 0,.slice none 0 0,.slice none 0 0,.int .i64 0,.int .i64 0,.int .i64 0,.int .i64 0,.slice none 0 0,.bool false,.slice none 0 0,.slice none 0 0,.slice none 0 0,.slice none 0 0,.slice none 0 0,.int .i64 0,.slice none 0 0,.slice none 0 0,.slice none 0 0]:=⟨by kernel_rfl,by kernel_rfl⟩
theorem cY:TI aM 149 8 72 true [.int .i64 0,.int .i64 0,.int .i64 0,.int .i64 0,.int .i64 0,.int .i64 0,.int .u64 0,.string ⟨#[]⟩]:=⟨by kernel_rfl,by kernel_rfl⟩
theorem Mi:TI aM 153 1 8 false [.map none]:=⟨by kernel_rfl,by kernel_rfl⟩
theorem Rj:TI aM 157 1 8 false [.nilFunc]:=⟨by kernel_rfl,by kernel_rfl⟩
theorem I2:TI aM 161 1 24 false [.slice none 0 0]:=⟨by kernel_rfl,by kernel_rfl⟩
theorem Us:TI aM 163 3 72 true [.slice none 0 0,.slice none 0 0,.slice none 0 0]:=⟨by kernel_rfl,by kernel_rfl⟩
theorem I1:TI aM 168 1 8 false [.pointer none]:=⟨by kernel_rfl,by kernel_rfl⟩
theorem Ur:TI aM 170 17 264 true [.pointer none,.int .i64 0,.int .i64 0,.int .i64 0,.int .i64 0,.slice none 0 0,.bool false,.slice none 0 0,.slice none 0 0,.slice none 0 0,.slice none 0 0,.slice none 0 0,.int .i64 0,.int .i64 0,.slice none 0 0,.int .i64 0,.slice none 0 0]:=⟨by kernel_rfl,by kernel_rfl⟩
theorem Uq:TI aM 192 1 8 false [.nilFunc]:=⟨by kernel_rfl,by kernel_rfl⟩
theorem Up:TI aM 207 1 8 false [.nilFunc]:=⟨by kernel_rfl,by kernel_rfl⟩
theorem Uo:TI aM 231 1 8 false [.nilFunc]:=⟨by kernel_rfl,by kernel_rfl⟩
theorem Dn:TI aM 238 256 1024 true (List.replicate 256 (.int .u32 0)):=⟨by kernel_rfl,by kernel_rfl⟩
theorem Mh:TI aM 270 2 24 true [.string ⟨#[]⟩,.int .i64 0]:=⟨by kernel_rfl,by kernel_rfl⟩
theorem Un:TI aM 271 6 72 true [.string ⟨#[]⟩,.int .i64 0,.string ⟨#[]⟩,.int .i64 0,.string ⟨#[]⟩,.int .i64 0]:=⟨by kernel_rfl,by kernel_rfl⟩
theorem zj:bZ aM 24 0=some (0,1):=by kernel_rfl
theorem tF:bZ aM 31 0=some (0,1):=by kernel_rfl
theorem w8:bZ aM 31 1=some (1,1):=by kernel_rfl
theorem va:bZ aM 31 2=some (2,1):=by kernel_rfl
theorem Fc:bZ aM 31 3=some (3,1):=by kernel_rfl
theorem ni:bZ aM 37 0=some (0,1):=by kernel_rfl
theorem M5:bZ aM 40 0=some (0,1):=by kernel_rfl
theorem u9:bZ aM 40 1=some (1,1):=by kernel_rfl
theorem Ca:bZ aM 40 2=some (2,1):=by kernel_rfl
theorem Tc:bZ aM 42 0=some (0,1):=by kernel_rfl
theorem M4:bZ aM 42 1=some (1,1):=by kernel_rfl
theorem fa:bZ aM 45 0=some (0,1):=by kernel_rfl
theorem iq:bZ aM 50 0=some (0,1):=by kernel_rfl
theorem u7:bZ aM 50 1=some (1,1):=by kernel_rfl
theorem zi:bZ aM 50 2=some (2,1):=by kernel_rfl
theorem pL:bZ aM 50 3=some (3,1):=by kernel_rfl
theorem rf:bZ aM 50 4=some (4,1):=by kernel_rfl
theorem Tb:bZ aM 50 5=some (5,1):=by kernel_rfl
theorem B9:bZ aM 50 6=some (6,1):=by kernel_rfl
theorem kq:bZ aM 50 7=some (7,1):=by kernel_rfl
theorem oV:bZ aM 50 8=some (8,1):=by kernel_rfl
theorem sl:bZ aM 50 9=some (9,1):=by kernel_rfl
theorem yc:bZ aM 50 10=some (10,1):=by kernel_rfl
theorem yb:bZ aM 50 11=some (11,1):=by kernel_rfl
theorem mS:bZ aM 55 0=some (0,1):=by kernel_rfl
theorem pK:bZ aM 55 1=some (1,1):=by kernel_rfl
theorem jC:bZ aM 82 0=some (0,1):=by kernel_rfl
theorem re:bZ aM 82 1=some (1,1):=by kernel_rfl
theorem M0:bZ aM 82 2=some (2,1):=by kernel_rfl
theorem zh:bZ aM 82 3=some (3,1):=by kernel_rfl
theorem m4:bZ aM 107 0=some (0,1):=by kernel_rfl
theorem yf:bZ aM 107 1=some (1,1):=by kernel_rfl
theorem Jp:bZ aM 111 0=some (0,1):=by kernel_rfl
theorem Fg:bZ aM 124 0=some (0,1):=by kernel_rfl
theorem A1:bZ aM 124 1=some (1,1):=by kernel_rfl
theorem qi:bZ aM 124 2=some (2,1):=by kernel_rfl
theorem fW:bZ aM 124 3=some (3,12):=by kernel_rfl
theorem il:bZ aM 124 4=some (15,1):=by kernel_rfl
theorem ye:bZ aM 124 5=some (16,1):=by kernel_rfl
theorem eW:bZ aM 124 6=some (17,1):=by kernel_rfl
theorem iA:bZ aM 149 0=some (0,1):=by kernel_rfl
theorem pi:bZ aM 149 1=some (1,1):=by kernel_rfl
theorem ph:bZ aM 149 2=some (2,1):=by kernel_rfl
theorem m3:bZ aM 149 3=some (3,1):=by kernel_rfl
theorem yd:bZ aM 149 4=some (4,4):=by kernel_rfl
theorem pg:bZ aM 163 0=some (0,1):=by kernel_rfl
theorem Ff:bZ aM 163 1=some (1,1):=by kernel_rfl
theorem AZ:bZ aM 163 2=some (2,1):=by kernel_rfl
theorem Jo:bZ aM 170 0=some (0,1):=by kernel_rfl
theorem AY:bZ aM 170 1=some (1,12):=by kernel_rfl
theorem tG:bZ aM 170 2=some (13,2):=by kernel_rfl
theorem Fe:bZ aM 170 3=some (15,2):=by kernel_rfl
theorem OX:bZ aM 270 0=some (0,1):=by kernel_rfl
theorem OW:bZ aM 270 1=some (1,1):=by kernel_rfl
theorem UO:jq aM 24=some [(0,1)]:=by kernel_rfl
theorem OT:jq aM 31=some [(0,1),(1,1),(2,1),(3,1)]:=by kernel_rfl
theorem S9:jq aM 37=some [(0,1)]:=by kernel_rfl
theorem UN:jq aM 40=some [(0,1),(1,1),(2,1)]:=by kernel_rfl
theorem S8:jq aM 42=some [(0,1),(1,1)]:=by kernel_rfl
theorem XN:jq aM 45=some [(0,1)]:=by kernel_rfl
theorem E9:jq aM 50=some [(0,1),(1,1),(2,1),(3,1),(4,1),(5,1),(6,1),(7,1),(8,1),(9,1),(10,1),(11,1)]:=by kernel_rfl
theorem GN:jq aM 55=some [(0,1),(1,1)]:=by kernel_rfl
theorem wY:jq aM 82=some [(0,1),(1,1),(2,1),(3,1)]:=by kernel_rfl
theorem UR:jq aM 124=some [(0,1),(1,1),(2,1),(3,12),(15,1),(16,1),(17,1)]:=by kernel_rfl
theorem RB:jq aM 149=some [(0,1),(1,1),(2,1),(3,1),(4,4)]:=by kernel_rfl
theorem UQ:jq aM 163=some [(0,1),(1,1),(2,1)]:=by kernel_rfl
theorem UP:jq aM 170=some [(0,1),(1,12),(13,2),(15,2)]:=by kernel_rfl
theorem cb8:ah aM 8=true:=by kernel_rfl
theorem Yu:ah aM 11=true:=by kernel_rfl
theorem Yt:ah aM 12=true:=by kernel_rfl
theorem WH:ah aM 13=true:=by kernel_rfl
theorem Wu:ah aM 15=true:=by kernel_rfl
theorem Ys:ah aM 16=true:=by kernel_rfl
theorem Yr:ah aM 24=true:=by kernel_rfl
theorem Vr:ah aM 27=true:=by kernel_rfl
theorem Yq:ah aM 28=true:=by kernel_rfl
theorem Yp:ah aM 29=true:=by kernel_rfl
theorem TW:ah aM 30=true:=by kernel_rfl
theorem Yo:ah aM 31=true:=by kernel_rfl
theorem Yn:ah aM 32=true:=by kernel_rfl
theorem TV:ah aM 41=true:=by kernel_rfl
theorem Vj:ah aM 42=true:=by kernel_rfl
theorem Ym:ah aM 43=true:=by kernel_rfl
theorem Vi:ah aM 45=true:=by kernel_rfl
theorem Yl:ah aM 46=true:=by kernel_rfl
theorem Yk:ah aM 47=true:=by kernel_rfl
theorem Nv:ah aM 48=true:=by kernel_rfl
theorem Yj:ah aM 59=true:=by kernel_rfl
theorem Yi:ah aM 62=true:=by kernel_rfl
theorem Yh:ah aM 63=true:=by kernel_rfl
theorem Vh:ah aM 64=true:=by kernel_rfl
theorem Yg:ah aM 65=true:=by kernel_rfl
theorem Nu:ah aM 66=true:=by kernel_rfl
theorem Vg:ah aM 67=true:=by kernel_rfl
theorem QU:ah aM 68=true:=by kernel_rfl
theorem Yf:ah aM 69=true:=by kernel_rfl
theorem Ye:ah aM 70=true:=by kernel_rfl
theorem Yd:ah aM 71=true:=by kernel_rfl
theorem Yc:ah aM 73=true:=by kernel_rfl
theorem Yb:ah aM 74=true:=by kernel_rfl
theorem Ya:ah aM 75=true:=by kernel_rfl
theorem Vf:ah aM 76=true:=by kernel_rfl
theorem X9:ah aM 77=true:=by kernel_rfl
theorem X8:ah aM 78=true:=by kernel_rfl
theorem X7:ah aM 79=true:=by kernel_rfl
theorem X6:ah aM 80=true:=by kernel_rfl
theorem X5:ah aM 81=true:=by kernel_rfl
theorem X4:ah aM 82=true:=by kernel_rfl
theorem X3:ah aM 83=true:=by kernel_rfl
theorem X2:ah aM 84=true:=by kernel_rfl
theorem X1:ah aM 85=true:=by kernel_rfl
theorem X0:ah aM 86=true:=by kernel_rfl
theorem Ve:ah aM 87=true:=by kernel_rfl
theorem XZ:ah aM 88=true:=by kernel_rfl
theorem XY:ah aM 89=true:=by kernel_rfl
theorem XX:ah aM 90=true:=by kernel_rfl
theorem XW:ah aM 91=true:=by kernel_rfl
theorem XV:ah aM 92=true:=by kernel_rfl
theorem XU:ah aM 93=true:=by kernel_rfl
theorem XT:ah aM 94=true:=by kernel_rfl
theorem XS:ah aM 95=true:=by kernel_rfl
theorem TU:ah aM 96=true:=by kernel_rfl
theorem WW:ah aM 105=true:=by kernel_rfl
theorem WV:ah aM 106=true:=by kernel_rfl
theorem WU:ah aM 107=true:=by kernel_rfl
theorem WT:ah aM 108=true:=by kernel_rfl
theorem WS:ah aM 109=true:=by kernel_rfl
theorem WR:ah aM 111=true:=by kernel_rfl
theorem WQ:ah aM 112=true:=by kernel_rfl
theorem R5:ah aM 113=true:=by kernel_rfl
theorem WP:ah aM 114=true:=by kernel_rfl
theorem R4:ah aM 115=true:=by kernel_rfl
theorem WO:ah aM 116=true:=by kernel_rfl
theorem WN:ah aM 117=true:=by kernel_rfl
theorem JZ:ah aM 118=true:=by kernel_rfl
theorem WM:ah aM 119=true:=by kernel_rfl
theorem NA:ah aM 120=true:=by kernel_rfl
theorem R3:ah aM 121=true:=by kernel_rfl
theorem WL:ah aM 122=true:=by kernel_rfl
theorem R1:ah aM 123=true:=by kernel_rfl
theorem RZ:ah aM 124=true:=by kernel_rfl
theorem WK:ah aM 125=true:=by kernel_rfl
theorem RY:ah aM 126=true:=by kernel_rfl
theorem WJ:ah aM 127=true:=by kernel_rfl
theorem WI:ah aM 128=true:=by kernel_rfl
theorem RX:ah aM 129=true:=by kernel_rfl
theorem Nz:ah aM 130=true:=by kernel_rfl
theorem WG:ah aM 131=true:=by kernel_rfl
theorem WF:ah aM 132=true:=by kernel_rfl
theorem RW:ah aM 133=true:=by kernel_rfl
theorem WE:ah aM 134=true:=by kernel_rfl
theorem JY:ah aM 135=true:=by kernel_rfl
theorem Ec:ah aM 136=true:=by kernel_rfl
theorem WD:ah aM 137=true:=by kernel_rfl
theorem WC:ah aM 138=true:=by kernel_rfl
theorem WB:ah aM 139=true:=by kernel_rfl
theorem WA:ah aM 140=true:=by kernel_rfl
theorem Wz:ah aM 141=true:=by kernel_rfl
theorem RV:ah aM 142=true:=by kernel_rfl
theorem RU:ah aM 143=true:=by kernel_rfl
theorem Wy:ah aM 144=true:=by kernel_rfl
theorem Wx:ah aM 145=true:=by kernel_rfl
theorem Ww:ah aM 146=true:=by kernel_rfl
theorem Wv:ah aM 147=true:=by kernel_rfl
theorem Ny:ah aM 148=true:=by kernel_rfl
theorem JX:ah aM 149=true:=by kernel_rfl
theorem RT:ah aM 150=true:=by kernel_rfl
theorem Wt:ah aM 151=true:=by kernel_rfl
theorem Ws:ah aM 152=true:=by kernel_rfl
theorem Wr:ah aM 153=true:=by kernel_rfl
theorem Wq:ah aM 154=true:=by kernel_rfl
theorem Wp:ah aM 155=true:=by kernel_rfl
theorem Wo:ah aM 156=true:=by kernel_rfl
theorem Wn:ah aM 157=true:=by kernel_rfl
theorem Wm:ah aM 158=true:=by kernel_rfl
theorem RS:ah aM 159=true:=by kernel_rfl
theorem JW:ah aM 160=true:=by kernel_rfl
theorem Wl:ah aM 161=true:=by kernel_rfl
theorem Wk:ah aM 162=true:=by kernel_rfl
theorem RR:ah aM 163=true:=by kernel_rfl
theorem Nx:ah aM 169=true:=by kernel_rfl
theorem Wj:ah aM 170=true:=by kernel_rfl
theorem Wi:ah aM 171=true:=by kernel_rfl
theorem Wh:ah aM 172=true:=by kernel_rfl
theorem RQ:ah aM 173=true:=by kernel_rfl
theorem Wg:ah aM 174=true:=by kernel_rfl
theorem Wf:ah aM 176=true:=by kernel_rfl
theorem We:ah aM 177=true:=by kernel_rfl
theorem Wd:ah aM 178=true:=by kernel_rfl
theorem Wc:ah aM 179=true:=by kernel_rfl
theorem Wb:ah aM 180=true:=by kernel_rfl
theorem Wa:ah aM 181=true:=by kernel_rfl
theorem V9:ah aM 184=true:=by kernel_rfl
theorem V8:ah aM 185=true:=by kernel_rfl
theorem RP:ah aM 186=true:=by kernel_rfl
theorem V7:ah aM 187=true:=by kernel_rfl
theorem V6:ah aM 188=true:=by kernel_rfl
theorem Nw:ah aM 189=true:=by kernel_rfl
theorem V5:ah aM 190=true:=by kernel_rfl
theorem V4:ah aM 191=true:=by kernel_rfl
theorem RO:ah aM 192=true:=by kernel_rfl
theorem JV:ah aM 193=true:=by kernel_rfl
theorem V3:ah aM 194=true:=by kernel_rfl
theorem V2:ah aM 195=true:=by kernel_rfl
theorem V1:ah aM 196=true:=by kernel_rfl
theorem V0:ah aM 197=true:=by kernel_rfl
theorem JU:ah aM 198=true:=by kernel_rfl
theorem RN:ah aM 199=true:=by kernel_rfl
theorem VZ:ah aM 200=true:=by kernel_rfl
theorem VY:ah aM 201=true:=by kernel_rfl
theorem VX:ah aM 202=true:=by kernel_rfl
theorem VW:ah aM 203=true:=by kernel_rfl
theorem VV:ah aM 204=true:=by kernel_rfl
theorem VU:ah aM 205=true:=by kernel_rfl
theorem RM:ah aM 206=true:=by kernel_rfl
theorem VT:ah aM 207=true:=by kernel_rfl
theorem VS:ah aM 208=true:=by kernel_rfl
theorem VR:ah aM 209=true:=by kernel_rfl
theorem VQ:ah aM 210=true:=by kernel_rfl
theorem VP:ah aM 211=true:=by kernel_rfl
theorem VO:ah aM 212=true:=by kernel_rfl
theorem RL:ah aM 213=true:=by kernel_rfl
theorem VN:ah aM 214=true:=by kernel_rfl
theorem VM:ah aM 215=true:=by kernel_rfl
theorem VL:ah aM 216=true:=by kernel_rfl
theorem VK:ah aM 217=true:=by kernel_rfl
theorem VJ:ah aM 218=true:=by kernel_rfl
theorem RK:ah aM 226=true:=by kernel_rfl
theorem VI:ah aM 227=true:=by kernel_rfl
theorem VH:ah aM 228=true:=by kernel_rfl
theorem VG:ah aM 229=true:=by kernel_rfl
theorem VF:ah aM 230=true:=by kernel_rfl
theorem VE:ah aM 231=true:=by kernel_rfl
theorem VD:ah aM 232=true:=by kernel_rfl
theorem VC:ah aM 233=true:=by kernel_rfl
theorem RJ:ah aM 245=true:=by kernel_rfl
theorem RI:ah aM 246=true:=by kernel_rfl
theorem VB:ah aM 247=true:=by kernel_rfl
theorem VA:ah aM 248=true:=by kernel_rfl
theorem Vz:ah aM 249=true:=by kernel_rfl
theorem Vy:ah aM 250=true:=by kernel_rfl
theorem Vx:ah aM 251=true:=by kernel_rfl
theorem Vw:ah aM 256=true:=by kernel_rfl
theorem Vv:ah aM 263=true:=by kernel_rfl
theorem Vu:ah aM 264=true:=by kernel_rfl
theorem Vt:ah aM 265=true:=by kernel_rfl
theorem Vs:ah aM 266=true:=by kernel_rfl
theorem RH:ah aM 272=true:=by kernel_rfl
theorem Vq:ah aM 273=true:=by kernel_rfl
theorem Vp:ah aM 274=true:=by kernel_rfl
theorem Vo:ah aM 275=true:=by kernel_rfl
theorem Vn:ah aM 276=true:=by kernel_rfl
theorem Vm:ah aM 279=true:=by kernel_rfl
theorem Vl:ah aM 287=true:=by kernel_rfl
theorem RF:ah aM 289=true:=by kernel_rfl
theorem Vk:ah aM 290=true:=by kernel_rfl
theorem zv4:ZV aM 4 (.bool false):=(show(Tryz.prog.info? 4).bind (fun i=>i.zero)=some (.bool false) by kernel_rfl)
theorem Uj:ZV aM 128 (.nilFunc):=(show(Tryz.prog.info? 128).bind (fun i=>i.zero)=some (.nilFunc) by kernel_rfl)
theorem Ui:ZV aM 157 (.nilFunc):=(show(Tryz.prog.info? 157).bind (fun i=>i.zero)=some (.nilFunc) by kernel_rfl)
theorem Uh:ZV aM 171 (.nilFunc):=(show(Tryz.prog.info? 171).bind (fun i=>i.zero)=some (.nilFunc) by kernel_rfl)
theorem QG:NO aM 61 (iS (rI .i64) 2):=NO.of (by kernel_rfl) (od (QF (n:=1) Bd bJ rfl rfl (yk (n:=0) ou)) 18)
theorem Va:mN aM 82 af 2:=Cf (n:=1) (fs:=[(3,0,false),(2,1,false),(80,2,false),(9,3,false)]) (by kernel_rfl) (by kernel_rfl) rfl (Kg.cons bJ rfl rfl ee (od (yk (n:=0) ou) 0) (Kg.cons Ky rfl rfl kP (od (yk (n:=0) CH) 0) (Kg.cons Sw rfl rfl B4 (od (yk (n:=0) CK) 0) (Kg.cons ED rfl rfl oO (od (QE (n:=0) kc) 0) Kg.nil)))) (fun x y=>by cases x;cases y;simp [Bool.decide_and])
theorem TP:NO aM 82 af:=NO.of (by kernel_rfl) (od Va 18)
theorem TN:mN aM 111 l0 2:=Cf (n:=1) (fs:=[(3,0,false),(4,1,false)]) (by kernel_rfl) (by kernel_rfl) rfl (Kg.cons bJ rfl rfl B6 (od (yk (n:=0) ou) 0) (Kg.cons LU rfl rfl MZ (od (Nl (n:=0) Di) 0) Kg.nil)) (fun x y=>by cases x;cases y;simp [Bool.decide_and])
theorem Vb:NO aM 111 l0:=NO.of (by kernel_rfl) (od TN 18)
theorem upX:Go.Proofs.Builder.Extra aM lT:={sizeBuilder:=by kernel_rfl,liesBuilder:=by kernel_rfl,t5:=Dh,a5:=Tryz.isAgg5,z5:=Tryz.sizeOf5,v5:=Tryz.zeroValue5,infoByte:=by kernel_rfl,cellsByte:=by kernel_rfl,sizeByte:=by kernel_rfl,neB5:=by decide}

end Go.Proofs.YtmogpgcfognefaaGreatDoor

