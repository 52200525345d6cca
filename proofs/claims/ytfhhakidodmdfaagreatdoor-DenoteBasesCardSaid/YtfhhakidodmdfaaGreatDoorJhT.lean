/- cX of this claim: T. -/
import Derived.Test.YtfhhakidodmdfaaGreatDoorJhD
import Derived.Test.YtfhhakidodmdfaaGreatDoorProg
import Derived.Test.YtfhhakidodmdfaaGreatDoorJhS
import Derived.Test.YtfhhakidodmdfaaGreatDoorJhV4
import Derived.Shelf.Strings.CaseAny
import Derived.KernelRfl
set_option linter.all false
namespace Go.Proofs.YtfhhakidodmdfaaGreatDoor
open Go
noncomputable abbrev aJ:=Tryz.prog
def ed:= @Tryz.underlying39
def ge:= @Tryz.underlying32
def lG:= @Tryz.underlying43
def mq:= @Tryz.underlying9
def ns:= @Tryz.underlying42
def nE:= @Tryz.underlying3
def jH:= @Tryz.underlying25
def nH:= @Tryz.underlying135
def o9:= @Tryz.underlying82
def pV:= @Tryz.underlying113
def q8:= @Tryz.underlying219
def ua:= @Tryz.underlying44
def t7:= @Tryz.underlying47
def t6:= @Tryz.underlying22
def tZ:= @Tryz.underlying68
def tY:= @Tryz.underlying2
def vb:= @Tryz.underlying69
def Af:= @Tryz.underlying239
def Ae:= @Tryz.underlying57
def Ad:= @Tryz.underlying98
def Le:= @Tryz.underlying4
def Fa:= @Tryz.underlying306
def E9:= @Tryz.underlying150
def F8:= @Tryz.underlying5

theorem mixed:Tryz.prog.follows .mixedOrders=true:=by kernel_rfl
theorem wM:TI aJ 2 1 8 false [.int .i64 0]:=⟨by kernel_rfl,by kernel_rfl⟩
theorem bP:TI aJ 3 1 8 false [.int .i64 0]:=⟨by kernel_rfl,by kernel_rfl⟩
theorem BC:TI aJ 4 1 1 false [.bool false]:=⟨by kernel_rfl,by kernel_rfl⟩
theorem PZ:TI aJ 5 1 1 false [.int .u8 0]:=⟨by kernel_rfl,by kernel_rfl⟩
theorem sQ:TI aJ 9 1 16 false [.string ⟨#[]⟩]:=⟨by kernel_rfl,by kernel_rfl⟩
theorem yL:TI aJ 22 1 24 false [.slice none 0 0]:=⟨by kernel_rfl,by kernel_rfl⟩
theorem mF:TI aJ 24 1 24 true [.slice none 0 0]:=⟨by kernel_rfl,by kernel_rfl⟩
theorem oL:TI aJ 25 1 24 false [.slice none 0 0]:=⟨by kernel_rfl,by kernel_rfl⟩
theorem Ao:TI aJ 27 1 24 true [.slice none 0 0]:=⟨by kernel_rfl,by kernel_rfl⟩
theorem eu:TI aJ 32 1 24 false [.slice none 0 0]:=⟨by kernel_rfl,by kernel_rfl⟩
theorem CY:TI aJ 33 1 8 false [.int .i64 0]:=⟨by kernel_rfl,by kernel_rfl⟩
theorem c0:TI aJ 39 1 24 false [.slice none 0 0]:=⟨by kernel_rfl,by kernel_rfl⟩
theorem An:TI aJ 42 1 24 false [.slice none 0 0]:=⟨by kernel_rfl,by kernel_rfl⟩
theorem dd:TI aJ 43 1 24 false [.slice none 0 0]:=⟨by kernel_rfl,by kernel_rfl⟩
theorem yK:TI aJ 44 1 8 false [.int .u64 0]:=⟨by kernel_rfl,by kernel_rfl⟩
theorem aG:TI aJ 46 4 40 true [.int .i64 0,.int .i64 0,.int .u64 0,.string ⟨#[]⟩]:=⟨by kernel_rfl,by kernel_rfl⟩
theorem wD:TI aJ 47 1 24 false [.slice none 0 0]:=⟨by kernel_rfl,by kernel_rfl⟩
theorem jg:TI aJ 49 1 24 true [.slice none 0 0]:=⟨by kernel_rfl,by kernel_rfl⟩
theorem qZ:TI aJ 51 2 32 true [.int .i64 0,.slice none 0 0]:=⟨by kernel_rfl,by kernel_rfl⟩
theorem BB:TI aJ 57 1 24 false [.slice none 0 0]:=⟨by kernel_rfl,by kernel_rfl⟩
theorem BA:TI aJ 60 2 16 true [.int .i64 0,.bool false]:=⟨by kernel_rfl,by kernel_rfl⟩
theorem xq:TI aJ 68 1 24 false [.slice none 0 0]:=⟨by kernel_rfl,by kernel_rfl⟩
theorem wC:TI aJ 69 1 24 false [.slice none 0 0]:=⟨by kernel_rfl,by kernel_rfl⟩
theorem fu:TI aJ 71 12 192 true [.int .i64 0,.int .i64 0,.int .i64 0,.int .i64 0,.slice none 0 0,.bool false,.slice none 0 0,.slice none 0 0,.slice none 0 0,.slice none 0 0,.slice none 0 0,.int .i64 0]:=⟨by kernel_rfl,by kernel_rfl⟩
theorem mE:TI aJ 80 8 72 true [.int .i64 0,.int .i64 0,.int .i64 0,.int .i64 0,.int .i64 0,.int .i64 0,.int .u64 0,.string ⟨#[]⟩]:=⟨by kernel_rfl,by kernel_rfl⟩
theorem sK:TI aJ 82 1 24 false [.slice none 0 0]:=⟨by kernel_rfl,by kernel_rfl⟩
theorem Fl:TI aJ 84 1 24 true [.slice none 0 0]:=⟨by kernel_rfl,by kernel_rfl⟩
theorem PY:TI aJ 96 3 72 true [.slice none 0 0,.slice none 0 0,.slice none 0 0]:=⟨by kernel_rfl,by kernel_rfl⟩
theorem gN:TI aJ 109 1 8 false [.pointer none]:=⟨by kernel_rfl,by kernel_rfl⟩
theorem nQ:TI aJ 113 1 24 false [.slice none 0 0]:=⟨by kernel_rfl,by kernel_rfl⟩
theorem M1:TI aJ 115 3 72 true [.slice none 0 0,.slice none 0 0,.slice none 0 0]:=⟨by kernel_rfl,by kernel_rfl⟩
theorem M0:TI aJ 123 1 8 false [.nilFunc]:=⟨by kernel_rfl,by kernel_rfl⟩
theorem MZ:TI aJ 131 1 8 false [.nilFunc]:=⟨by kernel_rfl,by kernel_rfl⟩
theorem m9:TI aJ 135 1 24 false [.slice none 0 0]:=⟨by kernel_rfl,by kernel_rfl⟩
theorem jw:TI aJ 137 3 64 true [.string ⟨#[]⟩,.slice none 0 0,.slice none 0 0]:=⟨by kernel_rfl,by kernel_rfl⟩
theorem iB:TI aJ 139 2 24 true [.string ⟨#[]⟩,.int .i64 0]:=⟨by kernel_rfl,by kernel_rfl⟩
theorem Eb:TI aJ 143 1 24 false [.slice none 0 0]:=⟨by kernel_rfl,by kernel_rfl⟩
theorem Ea:TI aJ 150 1 24 false [.slice none 0 0]:=⟨by kernel_rfl,by kernel_rfl⟩
theorem ue:TI aJ 154 2 48 true [.slice none 0 0,.slice none 0 0]:=⟨by kernel_rfl,by kernel_rfl⟩
theorem MY:TI aJ 207 1 8 false [.nilFunc]:=⟨by kernel_rfl,by kernel_rfl⟩
theorem Gj:TI aJ 219 1 8 false [.map none]:=⟨by kernel_rfl,by kernel_rfl⟩
theorem Kw:TI aJ 222 1 8 false [.nilFunc]:=⟨by kernel_rfl,by kernel_rfl⟩
theorem BD:TI aJ 243 2 16 true (List.replicate 2 (.int .i64 0)):=⟨by kernel_rfl,by kernel_rfl⟩
theorem MX:TI aJ 270 1 8 false [.nilFunc]:=⟨by kernel_rfl,by kernel_rfl⟩
theorem Gi:TI aJ 303 2 24 true [.string ⟨#[]⟩,.int .i64 0]:=⟨by kernel_rfl,by kernel_rfl⟩
theorem MW:TI aJ 304 6 72 true [.string ⟨#[]⟩,.int .i64 0,.string ⟨#[]⟩,.int .i64 0,.string ⟨#[]⟩,.int .i64 0]:=⟨by kernel_rfl,by kernel_rfl⟩
theorem pm:bR aJ 24 0=some (0,1):=by kernel_rfl
theorem qo:bR aJ 27 0=some (0,1):=by kernel_rfl
theorem em:bR aJ 46 0=some (0,1):=by kernel_rfl
theorem gK:bR aJ 46 1=some (1,1):=by kernel_rfl
theorem qn:bR aJ 46 2=some (2,1):=by kernel_rfl
theorem oe:bR aJ 46 3=some (3,1):=by kernel_rfl
theorem m3:bR aJ 49 0=some (0,1):=by kernel_rfl
theorem tE:bR aJ 51 0=some (0,1):=by kernel_rfl
theorem yh:bR aJ 51 1=some (1,1):=by kernel_rfl
theorem AO:bR aJ 60 0=some (0,1):=by kernel_rfl
theorem LZ:bR aJ 60 1=some (1,1):=by kernel_rfl
theorem vw:bR aJ 71 0=some (0,1):=by kernel_rfl
theorem gm:bR aJ 71 1=some (1,1):=by kernel_rfl
theorem m2:bR aJ 71 2=some (2,1):=by kernel_rfl
theorem tB:bR aJ 71 3=some (3,1):=by kernel_rfl
theorem ql:bR aJ 71 4=some (4,1):=by kernel_rfl
theorem DE:bR aJ 71 5=some (5,1):=by kernel_rfl
theorem qk:bR aJ 71 6=some (6,1):=by kernel_rfl
theorem pl:bR aJ 71 7=some (7,1):=by kernel_rfl
theorem od:bR aJ 71 8=some (8,1):=by kernel_rfl
theorem oc:bR aJ 71 9=some (9,1):=by kernel_rfl
theorem qm:bR aJ 71 10=some (10,1):=by kernel_rfl
theorem uG:bR aJ 71 11=some (11,1):=by kernel_rfl
theorem lr:bR aJ 80 0=some (0,1):=by kernel_rfl
theorem LY:bR aJ 80 1=some (1,1):=by kernel_rfl
theorem LX:bR aJ 80 2=some (2,1):=by kernel_rfl
theorem tA:bR aJ 80 3=some (3,1):=by kernel_rfl
theorem yg:bR aJ 80 4=some (4,4):=by kernel_rfl
theorem kg:bR aJ 84 0=some (0,1):=by kernel_rfl
theorem LW:bR aJ 96 0=some (0,1):=by kernel_rfl
theorem l0:bR aJ 96 1=some (1,1):=by kernel_rfl
theorem DD:bR aJ 96 2=some (2,1):=by kernel_rfl
theorem AP:bR aJ 115 0=some (0,1):=by kernel_rfl
theorem jB:bR aJ 115 1=some (1,1):=by kernel_rfl
theorem o4:bR aJ 115 2=some (2,1):=by kernel_rfl
theorem su:bR aJ 137 0=some (0,1):=by kernel_rfl
theorem iy:bR aJ 137 1=some (1,1):=by kernel_rfl
theorem o3:bR aJ 137 2=some (2,1):=by kernel_rfl
theorem uH:bR aJ 139 0=some (0,1):=by kernel_rfl
theorem wS:bR aJ 139 1=some (1,1):=by kernel_rfl
theorem Ir:bR aJ 154 0=some (0,1):=by kernel_rfl
theorem Iq:bR aJ 154 1=some (1,1):=by kernel_rfl
theorem Ip:bR aJ 303 0=some (0,1):=by kernel_rfl
theorem Io:bR aJ 303 1=some (1,1):=by kernel_rfl
theorem LU:jj aJ 24=some [(0,1)]:=by kernel_rfl
theorem Qs:jj aJ 27=some [(0,1)]:=by kernel_rfl
theorem lq:jj aJ 46=some [(0,1),(1,1),(2,1),(3,1)]:=by kernel_rfl
theorem LT:jj aJ 49=some [(0,1)]:=by kernel_rfl
theorem M8:jj aJ 51=some [(0,1),(1,1)]:=by kernel_rfl
theorem M7:jj aJ 71=some [(0,1),(1,1),(2,1),(3,1),(4,1),(5,1),(6,1),(7,1),(8,1),(9,1),(10,1),(11,1)]:=by kernel_rfl
theorem Qr:jj aJ 80=some [(0,1),(1,1),(2,1),(3,1),(4,4)]:=by kernel_rfl
theorem Qq:jj aJ 96=some [(0,1),(1,1),(2,1)]:=by kernel_rfl
theorem M9:jj aJ 115=some [(0,1),(1,1),(2,1)]:=by kernel_rfl
theorem KF:jj aJ 154=some [(0,1),(1,1)]:=by kernel_rfl
theorem QY:ah aJ 11=true:=by kernel_rfl
theorem QX:ah aJ 12=true:=by kernel_rfl
theorem QW:ah aJ 15=true:=by kernel_rfl
theorem QV:ah aJ 16=true:=by kernel_rfl
theorem QU:ah aJ 23=true:=by kernel_rfl
theorem QT:ah aJ 24=true:=by kernel_rfl
theorem Ny:ah aJ 38=true:=by kernel_rfl
theorem QS:ah aJ 42=true:=by kernel_rfl
theorem QR:ah aJ 43=true:=by kernel_rfl
theorem Nw:ah aJ 44=true:=by kernel_rfl
theorem QQ:ah aJ 45=true:=by kernel_rfl
theorem QP:ah aJ 46=true:=by kernel_rfl
theorem QO:ah aJ 47=true:=by kernel_rfl
theorem QN:ah aJ 48=true:=by kernel_rfl
theorem Nv:ah aJ 50=true:=by kernel_rfl
theorem QM:ah aJ 51=true:=by kernel_rfl
theorem QL:ah aJ 52=true:=by kernel_rfl
theorem QK:ah aJ 53=true:=by kernel_rfl
theorem QJ:ah aJ 54=true:=by kernel_rfl
theorem QI:ah aJ 55=true:=by kernel_rfl
theorem QH:ah aJ 56=true:=by kernel_rfl
theorem QG:ah aJ 57=true:=by kernel_rfl
theorem QF:ah aJ 58=true:=by kernel_rfl
theorem QE:ah aJ 59=true:=by kernel_rfl
theorem QD:ah aJ 60=true:=by kernel_rfl
theorem Nu:ah aJ 61=true:=by kernel_rfl
theorem QC:ah aJ 64=true:=by kernel_rfl
theorem ME:ah aJ 72=true:=by kernel_rfl
theorem Ho:ah aJ 73=true:=by kernel_rfl
theorem MD:ah aJ 75=true:=by kernel_rfl
theorem QB:ah aJ 76=true:=by kernel_rfl
theorem QA:ah aJ 86=true:=by kernel_rfl
theorem Qz:ah aJ 87=true:=by kernel_rfl
theorem Nt:ah aJ 88=true:=by kernel_rfl
theorem Qy:ah aJ 89=true:=by kernel_rfl
theorem Qx:ah aJ 90=true:=by kernel_rfl
theorem Qw:ah aJ 91=true:=by kernel_rfl
theorem Ns:ah aJ 93=true:=by kernel_rfl
theorem MC:ah aJ 94=true:=by kernel_rfl
theorem Km:ah aJ 95=true:=by kernel_rfl
theorem MB:ah aJ 97=true:=by kernel_rfl
theorem Qv:ah aJ 98=true:=by kernel_rfl
theorem Qu:ah aJ 99=true:=by kernel_rfl
theorem PO:ah aJ 100=true:=by kernel_rfl
theorem K9:ah aJ 101=true:=by kernel_rfl
theorem PN:ah aJ 102=true:=by kernel_rfl
theorem K8:ah aJ 103=true:=by kernel_rfl
theorem K7:ah aJ 104=true:=by kernel_rfl
theorem PM:ah aJ 105=true:=by kernel_rfl
theorem HD:ah aJ 106=true:=by kernel_rfl
theorem HC:ah aJ 107=true:=by kernel_rfl
theorem PL:ah aJ 108=true:=by kernel_rfl
theorem K6:ah aJ 109=true:=by kernel_rfl
theorem PK:ah aJ 110=true:=by kernel_rfl
theorem Cm:ah aJ 111=true:=by kernel_rfl
theorem PJ:ah aJ 123=true:=by kernel_rfl
theorem PI:ah aJ 126=true:=by kernel_rfl
theorem PH:ah aJ 129=true:=by kernel_rfl
theorem Cl:ah aJ 130=true:=by kernel_rfl
theorem PG:ah aJ 131=true:=by kernel_rfl
theorem PF:ah aJ 132=true:=by kernel_rfl
theorem PE:ah aJ 133=true:=by kernel_rfl
theorem PD:ah aJ 134=true:=by kernel_rfl
theorem PC:ah aJ 135=true:=by kernel_rfl
theorem HB:ah aJ 136=true:=by kernel_rfl
theorem PB:ah aJ 137=true:=by kernel_rfl
theorem PA:ah aJ 149=true:=by kernel_rfl
theorem HA:ah aJ 152=true:=by kernel_rfl
theorem K5:ah aJ 153=true:=by kernel_rfl
theorem Pz:ah aJ 154=true:=by kernel_rfl
theorem Py:ah aJ 157=true:=by kernel_rfl
theorem Px:ah aJ 158=true:=by kernel_rfl
theorem Pw:ah aJ 159=true:=by kernel_rfl
theorem Pv:ah aJ 160=true:=by kernel_rfl
theorem Pu:ah aJ 161=true:=by kernel_rfl
theorem Pt:ah aJ 162=true:=by kernel_rfl
theorem Ps:ah aJ 163=true:=by kernel_rfl
theorem Pr:ah aJ 164=true:=by kernel_rfl
theorem Pq:ah aJ 165=true:=by kernel_rfl
theorem Pp:ah aJ 166=true:=by kernel_rfl
theorem Po:ah aJ 167=true:=by kernel_rfl
theorem K0:ah aJ 168=true:=by kernel_rfl
theorem Pn:ah aJ 169=true:=by kernel_rfl
theorem Pm:ah aJ 170=true:=by kernel_rfl
theorem Pl:ah aJ 171=true:=by kernel_rfl
theorem Pk:ah aJ 172=true:=by kernel_rfl
theorem Pj:ah aJ 173=true:=by kernel_rfl
theorem KZ:ah aJ 174=true:=by kernel_rfl
theorem Pi:ah aJ 175=true:=by kernel_rfl
theorem Hz:ah aJ 176=true:=by kernel_rfl
theorem Ck:ah aJ 177=true:=by kernel_rfl
theorem Ph:ah aJ 178=true:=by kernel_rfl
theorem Pg:ah aJ 179=true:=by kernel_rfl
theorem Pf:ah aJ 180=true:=by kernel_rfl
theorem KY:ah aJ 181=true:=by kernel_rfl
theorem EU:ah aJ 182=true:=by kernel_rfl
theorem Pe:ah aJ 183=true:=by kernel_rfl
theorem Pd:ah aJ 184=true:=by kernel_rfl
theorem Pc:ah aJ 185=true:=by kernel_rfl
theorem Pb:ah aJ 186=true:=by kernel_rfl
theorem Pa:ah aJ 187=true:=by kernel_rfl
theorem Hy:ah aJ 188=true:=by kernel_rfl
theorem O9:ah aJ 189=true:=by kernel_rfl
theorem O8:ah aJ 190=true:=by kernel_rfl
theorem O7:ah aJ 191=true:=by kernel_rfl
theorem O6:ah aJ 201=true:=by kernel_rfl
theorem O5:ah aJ 202=true:=by kernel_rfl
theorem O4:ah aJ 203=true:=by kernel_rfl
theorem O3:ah aJ 204=true:=by kernel_rfl
theorem OZ:ah aJ 205=true:=by kernel_rfl
theorem OY:ah aJ 206=true:=by kernel_rfl
theorem OX:ah aJ 207=true:=by kernel_rfl
theorem OW:ah aJ 208=true:=by kernel_rfl
theorem OV:ah aJ 209=true:=by kernel_rfl
theorem OU:ah aJ 210=true:=by kernel_rfl
theorem OT:ah aJ 211=true:=by kernel_rfl
theorem OS:ah aJ 212=true:=by kernel_rfl
theorem ET:ah aJ 213=true:=by kernel_rfl
theorem OR:ah aJ 214=true:=by kernel_rfl
theorem OQ:ah aJ 215=true:=by kernel_rfl
theorem Hx:ah aJ 216=true:=by kernel_rfl
theorem OP:ah aJ 217=true:=by kernel_rfl
theorem OO:ah aJ 218=true:=by kernel_rfl
theorem ON:ah aJ 229=true:=by kernel_rfl
theorem OM:ah aJ 242=true:=by kernel_rfl
theorem KX:ah aJ 243=true:=by kernel_rfl
theorem OL:ah aJ 244=true:=by kernel_rfl
theorem OK:ah aJ 245=true:=by kernel_rfl
theorem Hw:ah aJ 246=true:=by kernel_rfl
theorem OJ:ah aJ 247=true:=by kernel_rfl
theorem OH:ah aJ 248=true:=by kernel_rfl
theorem OG:ah aJ 249=true:=by kernel_rfl
theorem KW:ah aJ 250=true:=by kernel_rfl
theorem OF:ah aJ 251=true:=by kernel_rfl
theorem Hv:ah aJ 252=true:=by kernel_rfl
theorem OD:ah aJ 253=true:=by kernel_rfl
theorem OC:ah aJ 254=true:=by kernel_rfl
theorem OB:ah aJ 255=true:=by kernel_rfl
theorem Hu:ah aJ 256=true:=by kernel_rfl
theorem OA:ah aJ 257=true:=by kernel_rfl
theorem ES:ah aJ 258=true:=by kernel_rfl
theorem Oz:ah aJ 259=true:=by kernel_rfl
theorem Oy:ah aJ 260=true:=by kernel_rfl
theorem Ox:ah aJ 261=true:=by kernel_rfl
theorem Ht:ah aJ 262=true:=by kernel_rfl
theorem KV:ah aJ 263=true:=by kernel_rfl
theorem Ow:ah aJ 264=true:=by kernel_rfl
theorem KU:ah aJ 265=true:=by kernel_rfl
theorem KT:ah aJ 266=true:=by kernel_rfl
theorem Ov:ah aJ 267=true:=by kernel_rfl
theorem KS:ah aJ 268=true:=by kernel_rfl
theorem Ou:ah aJ 269=true:=by kernel_rfl
theorem Ot:ah aJ 270=true:=by kernel_rfl
theorem KR:ah aJ 271=true:=by kernel_rfl
theorem Hs:ah aJ 272=true:=by kernel_rfl
theorem Oq:ah aJ 273=true:=by kernel_rfl
theorem Oo:ah aJ 274=true:=by kernel_rfl
theorem KP:ah aJ 275=true:=by kernel_rfl
theorem On:ah aJ 276=true:=by kernel_rfl
theorem Ol:ah aJ 279=true:=by kernel_rfl
theorem Ok:ah aJ 280=true:=by kernel_rfl
theorem Oj:ah aJ 281=true:=by kernel_rfl
theorem KO:ah aJ 282=true:=by kernel_rfl
theorem Oh:ah aJ 283=true:=by kernel_rfl
theorem Og:ah aJ 284=true:=by kernel_rfl
theorem Hr:ah aJ 285=true:=by kernel_rfl
theorem Oe:ah aJ 286=true:=by kernel_rfl
theorem Od:ah aJ 287=true:=by kernel_rfl
theorem ER:ah aJ 288=true:=by kernel_rfl
theorem Hq:ah aJ 289=true:=by kernel_rfl
theorem Oc:ah aJ 290=true:=by kernel_rfl
theorem KN:ah aJ 310=true:=by kernel_rfl
theorem KM:ah aJ 311=true:=by kernel_rfl
theorem KL:ah aJ 312=true:=by kernel_rfl
theorem KK:ah aJ 313=true:=by kernel_rfl
theorem Oa:ah aJ 314=true:=by kernel_rfl
theorem N9:ah aJ 315=true:=by kernel_rfl
theorem N8:ah aJ 316=true:=by kernel_rfl
theorem N7:ah aJ 317=true:=by kernel_rfl
theorem N6:ah aJ 318=true:=by kernel_rfl
theorem N5:ah aJ 319=true:=by kernel_rfl
theorem N4:ah aJ 320=true:=by kernel_rfl
theorem N3:ah aJ 321=true:=by kernel_rfl
theorem N2:ah aJ 322=true:=by kernel_rfl
theorem N1:ah aJ 323=true:=by kernel_rfl
theorem KJ:ah aJ 324=true:=by kernel_rfl
theorem N0:ah aJ 325=true:=by kernel_rfl
theorem NZ:ah aJ 326=true:=by kernel_rfl
theorem Hp:ah aJ 327=true:=by kernel_rfl
theorem NY:ah aJ 328=true:=by kernel_rfl
theorem NX:ah aJ 329=true:=by kernel_rfl
theorem EQ:ah aJ 330=true:=by kernel_rfl
theorem NW:ah aJ 331=true:=by kernel_rfl
theorem NV:ah aJ 332=true:=by kernel_rfl
theorem NU:ah aJ 333=true:=by kernel_rfl
theorem NT:ah aJ 334=true:=by kernel_rfl
theorem EP:ah aJ 335=true:=by kernel_rfl
theorem KI:ah aJ 336=true:=by kernel_rfl
theorem NR:ah aJ 337=true:=by kernel_rfl
theorem NQ:ah aJ 338=true:=by kernel_rfl
theorem NP:ah aJ 339=true:=by kernel_rfl
theorem NO:ah aJ 340=true:=by kernel_rfl
theorem NN:ah aJ 341=true:=by kernel_rfl
theorem NM:ah aJ 343=true:=by kernel_rfl
theorem NL:ah aJ 344=true:=by kernel_rfl
theorem NK:ah aJ 345=true:=by kernel_rfl
theorem NJ:ah aJ 346=true:=by kernel_rfl
theorem NI:ah aJ 354=true:=by kernel_rfl
theorem NH:ah aJ 361=true:=by kernel_rfl
theorem NF:ah aJ 362=true:=by kernel_rfl
theorem KH:ah aJ 363=true:=by kernel_rfl
theorem ND:ah aJ 364=true:=by kernel_rfl
theorem NC:ah aJ 365=true:=by kernel_rfl
theorem NB:ah aJ 366=true:=by kernel_rfl
theorem NA:ah aJ 368=true:=by kernel_rfl
theorem Nz:ah aJ 376=true:=by kernel_rfl
theorem Nx:ah aJ 382=true:=by kernel_rfl
theorem PW:ZV aJ 97 (.nilFunc):=(show(Tryz.prog.info? 97).bind (fun i=>i.zero)=some (.nilFunc) by kernel_rfl)
theorem ML:ZV aJ 222 (.nilFunc):=(show(Tryz.prog.info? 222).bind (fun i=>i.zero)=some (.nilFunc) by kernel_rfl)
theorem MK:ZV aJ 238 (.nilFunc):=(show(Tryz.prog.info? 238).bind (fun i=>i.zero)=some (.nilFunc) by kernel_rfl)
theorem No:mP aJ 46 ac 2:=DL (n:=1) (fs:=[(3,0,false),(2,1,false),(44,2,false),(9,3,false)]) (by kernel_rfl) (by kernel_rfl) rfl (HK.cons bP rfl rfl bU (pR (wZ (n:=0) nE) 0) (HK.cons wM rfl rfl dg (pR (wZ (n:=0) tY) 0) (HK.cons yK rfl rfl i5 (pR (wZ (n:=0) ua) 0) (HK.cons sQ rfl rfl gI (pR (Kg (n:=0) mq) 0) HK.nil)))) (fun x y=>by cases x;cases y;simp [Bool.decide_and])
theorem DN:Lb aJ 46 ac:=Lb.of (by kernel_rfl) (pR No 18)
theorem Np:Lb aJ 243 (lF (rI .i64) 2):=Lb.of (by kernel_rfl) (pR (Kh (n:=1) Tryz.underlying243 bP rfl rfl (wZ (n:=0) nE)) 18)
theorem upX:Go.Proofs.Builder.Extra aJ jD:={sizeBuilder:=by kernel_rfl,liesBuilder:=by kernel_rfl,t5:=F8,a5:=Tryz.isAgg5,z5:=Tryz.sizeOf5,v5:=Tryz.zeroValue5,infoByte:=by kernel_rfl,cellsByte:=by kernel_rfl,sizeByte:=by kernel_rfl,neB5:=by decide}

end Go.Proofs.YtfhhakidodmdfaaGreatDoor

