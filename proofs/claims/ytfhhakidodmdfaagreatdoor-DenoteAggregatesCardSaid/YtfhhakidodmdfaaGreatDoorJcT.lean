/- di of this claim: T. -/
import Derived.Test.YtfhhakidodmdfaaGreatDoorJcD
import Derived.Test.YtfhhakidodmdfaaGreatDoorProg
import Derived.Test.YtfhhakidodmdfaaGreatDoorJcS
import Derived.Test.YtfhhakidodmdfaaGreatDoorJcV4
import Derived.KernelRfl
set_option linter.all false
namespace Go.Proofs.YtfhhakidodmdfaaGreatDoor
open Go
noncomputable abbrev aU:=Tryz.prog
def iv:= @Tryz.underlying39
def jN:= @Tryz.underlying32
def iw:= @Tryz.underlying43
def i7:= @Tryz.underlying42
def lj:= @Tryz.underlying3
def pi:= @Tryz.underlying185
def p6:= @Tryz.underlying47
def qP:= @Tryz.underlying25
def uW:= @Tryz.underlying44
def wa:= @Tryz.underlying113
def v7:= @Tryz.underlying9
def vh:= @Tryz.underlying2
def xp:= @Tryz.underlying219
def AJ:= @Tryz.underlying22
def AI:= @Tryz.underlying68
def BX:= @Tryz.underlying69
def CX:= @Tryz.underlying4
def AP:= @Tryz.underlying239
def AN:= @Tryz.underlying98
def AM:= @Tryz.underlying57
def GD:= @Tryz.underlying150

theorem mixed:Tryz.prog.follows .mixedOrders=true:=by kernel_rfl
theorem uq:TI aU 2 1 8 false [.int .i64 0]:=⟨by kernel_rfl,by kernel_rfl⟩
theorem cg:TI aU 3 1 8 false [.int .i64 0]:=⟨by kernel_rfl,by kernel_rfl⟩
theorem yy:TI aU 4 1 1 false [.bool false]:=⟨by kernel_rfl,by kernel_rfl⟩
theorem B6:TI aU 9 1 16 false [.string ⟨#[]⟩]:=⟨by kernel_rfl,by kernel_rfl⟩
theorem F5:TI aU 22 1 24 false [.slice none 0 0]:=⟨by kernel_rfl,by kernel_rfl⟩
theorem rP:TI aU 24 1 24 true [.slice none 0 0]:=⟨by kernel_rfl,by kernel_rfl⟩
theorem zf:TI aU 25 1 24 false [.slice none 0 0]:=⟨by kernel_rfl,by kernel_rfl⟩
theorem PQ:TI aU 27 1 24 true [.slice none 0 0]:=⟨by kernel_rfl,by kernel_rfl⟩
theorem iy:TI aU 32 1 24 false [.slice none 0 0]:=⟨by kernel_rfl,by kernel_rfl⟩
theorem Ml:TI aU 33 1 8 false [.int .i64 0]:=⟨by kernel_rfl,by kernel_rfl⟩
theorem eQ:TI aU 39 1 24 false [.slice none 0 0]:=⟨by kernel_rfl,by kernel_rfl⟩
theorem HX:TI aU 42 1 24 false [.slice none 0 0]:=⟨by kernel_rfl,by kernel_rfl⟩
theorem eg:TI aU 43 1 24 false [.slice none 0 0]:=⟨by kernel_rfl,by kernel_rfl⟩
theorem fU:TI aU 44 1 8 false [.int .u64 0]:=⟨by kernel_rfl,by kernel_rfl⟩
theorem au:TI aU 46 4 40 true [.int .i64 0,.int .i64 0,.int .u64 0,.string ⟨#[]⟩]:=⟨by kernel_rfl,by kernel_rfl⟩
theorem sQ:TI aU 47 1 24 false [.slice none 0 0]:=⟨by kernel_rfl,by kernel_rfl⟩
theorem k5:TI aU 49 1 24 true [.slice none 0 0]:=⟨by kernel_rfl,by kernel_rfl⟩
theorem uZ:TI aU 51 2 32 true [.int .i64 0,.slice none 0 0]:=⟨by kernel_rfl,by kernel_rfl⟩
theorem JN:TI aU 57 1 24 false [.slice none 0 0]:=⟨by kernel_rfl,by kernel_rfl⟩
theorem JM:TI aU 60 2 16 true [.int .i64 0,.bool false]:=⟨by kernel_rfl,by kernel_rfl⟩
theorem Em:TI aU 68 1 24 false [.slice none 0 0]:=⟨by kernel_rfl,by kernel_rfl⟩
theorem Dt:TI aU 69 1 24 false [.slice none 0 0]:=⟨by kernel_rfl,by kernel_rfl⟩
theorem jj:TI aU 71 12 192 true [.int .i64 0,.int .i64 0,.int .i64 0,.int .i64 0,.slice none 0 0,.bool false,.slice none 0 0,.slice none 0 0,.slice none 0 0,.slice none 0 0,.slice none 0 0,.int .i64 0]:=⟨by kernel_rfl,by kernel_rfl⟩
theorem lI:TI aU 80 8 72 true [.int .i64 0,.int .i64 0,.int .i64 0,.int .i64 0,.int .i64 0,.int .i64 0,.int .u64 0,.string ⟨#[]⟩]:=⟨by kernel_rfl,by kernel_rfl⟩
theorem acJ:TI aU 96 3 72 true [.slice none 0 0,.slice none 0 0,.slice none 0 0]:=⟨by kernel_rfl,by kernel_rfl⟩
theorem k6:TI aU 109 1 8 false [.pointer none]:=⟨by kernel_rfl,by kernel_rfl⟩
theorem tF:TI aU 113 1 24 false [.slice none 0 0]:=⟨by kernel_rfl,by kernel_rfl⟩
theorem ZQ:TI aU 115 3 72 true [.slice none 0 0,.slice none 0 0,.slice none 0 0]:=⟨by kernel_rfl,by kernel_rfl⟩
theorem ZP:TI aU 123 1 8 false [.nilFunc]:=⟨by kernel_rfl,by kernel_rfl⟩
theorem ZO:TI aU 131 1 8 false [.nilFunc]:=⟨by kernel_rfl,by kernel_rfl⟩
theorem NZ:TI aU 143 1 24 false [.slice none 0 0]:=⟨by kernel_rfl,by kernel_rfl⟩
theorem NY:TI aU 150 1 24 false [.slice none 0 0]:=⟨by kernel_rfl,by kernel_rfl⟩
theorem AV:TI aU 154 2 48 true [.slice none 0 0,.slice none 0 0]:=⟨by kernel_rfl,by kernel_rfl⟩
theorem Re:TI aU 185 8 64 true (List.replicate 8 (.int .u64 0)):=⟨by kernel_rfl,by kernel_rfl⟩
theorem fS:TI aU 187 9 72 true [.int .u64 0,.int .u64 0,.int .u64 0,.int .u64 0,.int .u64 0,.int .u64 0,.int .u64 0,.int .u64 0,.bool false]:=⟨by kernel_rfl,by kernel_rfl⟩
theorem Rd:TI aU 219 1 8 false [.map none]:=⟨by kernel_rfl,by kernel_rfl⟩
theorem WJ:TI aU 222 1 8 false [.nilFunc]:=⟨by kernel_rfl,by kernel_rfl⟩
theorem JO:TI aU 243 2 16 true (List.replicate 2 (.int .i64 0)):=⟨by kernel_rfl,by kernel_rfl⟩
theorem vd:da aU 24 0=some (0,1):=by kernel_rfl
theorem Nj:da aU 27 0=some (0,1):=by kernel_rfl
theorem cz:da aU 46 0=some (0,1):=by kernel_rfl
theorem eE:da aU 46 1=some (1,1):=by kernel_rfl
theorem pD:da aU 46 2=some (2,1):=by kernel_rfl
theorem jG:da aU 46 3=some (3,1):=by kernel_rfl
theorem ku:da aU 49 0=some (0,1):=by kernel_rfl
theorem mT:da aU 51 0=some (0,1):=by kernel_rfl
theorem ua:da aU 51 1=some (1,1):=by kernel_rfl
theorem IL:da aU 60 0=some (0,1):=by kernel_rfl
theorem YE:da aU 60 1=some (1,1):=by kernel_rfl
theorem Cp:da aU 71 0=some (0,1):=by kernel_rfl
theorem kq:da aU 71 1=some (1,1):=by kernel_rfl
theorem sG:da aU 71 2=some (2,1):=by kernel_rfl
theorem Ao:da aU 71 3=some (3,1):=by kernel_rfl
theorem wD:da aU 71 4=some (4,1):=by kernel_rfl
theorem Ni:da aU 71 5=some (5,1):=by kernel_rfl
theorem wC:da aU 71 6=some (6,1):=by kernel_rfl
theorem vc:da aU 71 7=some (7,1):=by kernel_rfl
theorem t8:da aU 71 8=some (8,1):=by kernel_rfl
theorem t7:da aU 71 9=some (9,1):=by kernel_rfl
theorem wE:da aU 71 10=some (10,1):=by kernel_rfl
theorem Bp:da aU 71 11=some (11,1):=by kernel_rfl
theorem mS:da aU 80 0=some (0,1):=by kernel_rfl
theorem Fj:da aU 80 1=some (1,1):=by kernel_rfl
theorem Co:da aU 80 2=some (2,1):=by kernel_rfl
theorem qw:da aU 80 3=some (3,1):=by kernel_rfl
theorem vb:da aU 80 4=some (4,4):=by kernel_rfl
theorem YD:da aU 96 0=some (0,1):=by kernel_rfl
theorem rl:da aU 96 1=some (1,1):=by kernel_rfl
theorem Nh:da aU 96 2=some (2,1):=by kernel_rfl
theorem IM:da aU 115 0=some (0,1):=by kernel_rfl
theorem nN:da aU 115 1=some (1,1):=by kernel_rfl
theorem uO:da aU 115 2=some (2,1):=by kernel_rfl
theorem UC:da aU 154 0=some (0,1):=by kernel_rfl
theorem UB:da aU 154 1=some (1,1):=by kernel_rfl
theorem ge:da aU 187 0=some (0,8):=by kernel_rfl
theorem lD:da aU 187 1=some (8,1):=by kernel_rfl
theorem YB:ml aU 24=some [(0,1)]:=by kernel_rfl
theorem acU:ml aU 27=some [(0,1)]:=by kernel_rfl
theorem gW:ml aU 46=some [(0,1),(1,1),(2,1),(3,1)]:=by kernel_rfl
theorem YA:ml aU 49=some [(0,1)]:=by kernel_rfl
theorem aag:ml aU 51=some [(0,1),(1,1)]:=by kernel_rfl
theorem aaf:ml aU 71=some [(0,1),(1,1),(2,1),(3,1),(4,1),(5,1),(6,1),(7,1),(8,1),(9,1),(10,1),(11,1)]:=by kernel_rfl
theorem acT:ml aU 80=some [(0,1),(1,1),(2,1),(3,1),(4,4)]:=by kernel_rfl
theorem acS:ml aU 96=some [(0,1),(1,1),(2,1)]:=by kernel_rfl
theorem aah:ml aU 115=some [(0,1),(1,1),(2,1)]:=by kernel_rfl
theorem Xa:ml aU 154=some [(0,1),(1,1)]:=by kernel_rfl
theorem W0:ml aU 187=some [(0,8),(8,1)]:=by kernel_rfl
theorem adB:an aU 11=true:=by kernel_rfl
theorem adA:an aU 15=true:=by kernel_rfl
theorem adz:an aU 16=true:=by kernel_rfl
theorem ady:an aU 17=true:=by kernel_rfl
theorem adx:an aU 23=true:=by kernel_rfl
theorem adw:an aU 24=true:=by kernel_rfl
theorem adv:an aU 25=true:=by kernel_rfl
theorem adu:an aU 26=true:=by kernel_rfl
theorem abm:an aU 27=true:=by kernel_rfl
theorem adt:an aU 28=true:=by kernel_rfl
theorem ads:an aU 31=true:=by kernel_rfl
theorem aaI:an aU 38=true:=by kernel_rfl
theorem adr:an aU 46=true:=by kernel_rfl
theorem adq:an aU 47=true:=by kernel_rfl
theorem adp:an aU 48=true:=by kernel_rfl
theorem aaG:an aU 50=true:=by kernel_rfl
theorem ado:an aU 51=true:=by kernel_rfl
theorem adn:an aU 52=true:=by kernel_rfl
theorem adm:an aU 53=true:=by kernel_rfl
theorem adl:an aU 54=true:=by kernel_rfl
theorem adk:an aU 55=true:=by kernel_rfl
theorem adj:an aU 56=true:=by kernel_rfl
theorem adi:an aU 57=true:=by kernel_rfl
theorem adh:an aU 58=true:=by kernel_rfl
theorem adg:an aU 59=true:=by kernel_rfl
theorem adf:an aU 60=true:=by kernel_rfl
theorem ade:an aU 61=true:=by kernel_rfl
theorem Zr:an aU 72=true:=by kernel_rfl
theorem SS:an aU 73=true:=by kernel_rfl
theorem adc:an aU 74=true:=by kernel_rfl
theorem Wm:an aU 75=true:=by kernel_rfl
theorem aaF:an aU 76=true:=by kernel_rfl
theorem Zq:an aU 77=true:=by kernel_rfl
theorem Lr:an aU 78=true:=by kernel_rfl
theorem adb:an aU 79=true:=by kernel_rfl
theorem ada:an aU 80=true:=by kernel_rfl
theorem aaE:an aU 81=true:=by kernel_rfl
theorem ac9:an aU 82=true:=by kernel_rfl
theorem ac8:an aU 85=true:=by kernel_rfl
theorem ac7:an aU 86=true:=by kernel_rfl
theorem Cz:an aU 87=true:=by kernel_rfl
theorem aaD:an aU 88=true:=by kernel_rfl
theorem ac6:an aU 89=true:=by kernel_rfl
theorem ac5:an aU 90=true:=by kernel_rfl
theorem ac4:an aU 91=true:=by kernel_rfl
theorem aaC:an aU 93=true:=by kernel_rfl
theorem Wl:an aU 94=true:=by kernel_rfl
theorem Wk:an aU 95=true:=by kernel_rfl
theorem Zp:an aU 97=true:=by kernel_rfl
theorem ac3:an aU 98=true:=by kernel_rfl
theorem XH:an aU 101=true:=by kernel_rfl
theorem acy:an aU 102=true:=by kernel_rfl
theorem XG:an aU 103=true:=by kernel_rfl
theorem XF:an aU 104=true:=by kernel_rfl
theorem acx:an aU 105=true:=by kernel_rfl
theorem Tc:an aU 106=true:=by kernel_rfl
theorem Tb:an aU 107=true:=by kernel_rfl
theorem acw:an aU 108=true:=by kernel_rfl
theorem XE:an aU 109=true:=by kernel_rfl
theorem acv:an aU 110=true:=by kernel_rfl
theorem Lw:an aU 111=true:=by kernel_rfl
theorem Pq:an aU 112=true:=by kernel_rfl
theorem acu:an aU 123=true:=by kernel_rfl
theorem act:an aU 126=true:=by kernel_rfl
theorem acs:an aU 127=true:=by kernel_rfl
theorem acr:an aU 128=true:=by kernel_rfl
theorem acq:an aU 129=true:=by kernel_rfl
theorem Lv:an aU 130=true:=by kernel_rfl
theorem acp:an aU 131=true:=by kernel_rfl
theorem aco:an aU 132=true:=by kernel_rfl
theorem acn:an aU 133=true:=by kernel_rfl
theorem acm:an aU 134=true:=by kernel_rfl
theorem acl:an aU 135=true:=by kernel_rfl
theorem Ta:an aU 136=true:=by kernel_rfl
theorem ack:an aU 137=true:=by kernel_rfl
theorem acj:an aU 138=true:=by kernel_rfl
theorem aci:an aU 139=true:=by kernel_rfl
theorem Ho:an aU 140=true:=by kernel_rfl
theorem ach:an aU 141=true:=by kernel_rfl
theorem XD:an aU 142=true:=by kernel_rfl
theorem S9:an aU 143=true:=by kernel_rfl
theorem XC:an aU 144=true:=by kernel_rfl
theorem zN:an aU 145=true:=by kernel_rfl
theorem S8:an aU 146=true:=by kernel_rfl
theorem Pp:an aU 147=true:=by kernel_rfl
theorem Lu:an aU 148=true:=by kernel_rfl
theorem acg:an aU 149=true:=by kernel_rfl
theorem acf:an aU 151=true:=by kernel_rfl
theorem S7:an aU 152=true:=by kernel_rfl
theorem XB:an aU 153=true:=by kernel_rfl
theorem ace:an aU 154=true:=by kernel_rfl
theorem acd:an aU 157=true:=by kernel_rfl
theorem acc:an aU 158=true:=by kernel_rfl
theorem acb:an aU 159=true:=by kernel_rfl
theorem aca:an aU 160=true:=by kernel_rfl
theorem ab9:an aU 161=true:=by kernel_rfl
theorem ab8:an aU 162=true:=by kernel_rfl
theorem ab7:an aU 170=true:=by kernel_rfl
theorem ab6:an aU 171=true:=by kernel_rfl
theorem ab5:an aU 172=true:=by kernel_rfl
theorem ab4:an aU 173=true:=by kernel_rfl
theorem XA:an aU 174=true:=by kernel_rfl
theorem ab3:an aU 175=true:=by kernel_rfl
theorem S6:an aU 176=true:=by kernel_rfl
theorem Lt:an aU 177=true:=by kernel_rfl
theorem ab2:an aU 178=true:=by kernel_rfl
theorem ab1:an aU 179=true:=by kernel_rfl
theorem ab0:an aU 180=true:=by kernel_rfl
theorem Xz:an aU 181=true:=by kernel_rfl
theorem Po:an aU 182=true:=by kernel_rfl
theorem abZ:an aU 183=true:=by kernel_rfl
theorem abY:an aU 184=true:=by kernel_rfl
theorem abX:an aU 185=true:=by kernel_rfl
theorem abW:an aU 186=true:=by kernel_rfl
theorem abV:an aU 187=true:=by kernel_rfl
theorem S5:an aU 188=true:=by kernel_rfl
theorem abU:an aU 189=true:=by kernel_rfl
theorem abT:an aU 190=true:=by kernel_rfl
theorem abS:an aU 191=true:=by kernel_rfl
theorem abR:an aU 201=true:=by kernel_rfl
theorem abQ:an aU 202=true:=by kernel_rfl
theorem abP:an aU 203=true:=by kernel_rfl
theorem abO:an aU 204=true:=by kernel_rfl
theorem abN:an aU 205=true:=by kernel_rfl
theorem abM:an aU 206=true:=by kernel_rfl
theorem abL:an aU 207=true:=by kernel_rfl
theorem abK:an aU 208=true:=by kernel_rfl
theorem abJ:an aU 209=true:=by kernel_rfl
theorem abI:an aU 210=true:=by kernel_rfl
theorem abH:an aU 211=true:=by kernel_rfl
theorem abG:an aU 212=true:=by kernel_rfl
theorem Pn:an aU 213=true:=by kernel_rfl
theorem abF:an aU 214=true:=by kernel_rfl
theorem abE:an aU 215=true:=by kernel_rfl
theorem S4:an aU 216=true:=by kernel_rfl
theorem abD:an aU 217=true:=by kernel_rfl
theorem abC:an aU 218=true:=by kernel_rfl
theorem abB:an aU 219=true:=by kernel_rfl
theorem Ls:an aU 220=true:=by kernel_rfl
theorem Fu:an aU 221=true:=by kernel_rfl
theorem Xy:an aU 222=true:=by kernel_rfl
theorem abA:an aU 223=true:=by kernel_rfl
theorem Ft:an aU 224=true:=by kernel_rfl
theorem abz:an aU 225=true:=by kernel_rfl
theorem Xx:an aU 226=true:=by kernel_rfl
theorem aby:an aU 227=true:=by kernel_rfl
theorem S3:an aU 228=true:=by kernel_rfl
theorem abx:an aU 229=true:=by kernel_rfl
theorem abw:an aU 242=true:=by kernel_rfl
theorem Xw:an aU 243=true:=by kernel_rfl
theorem abv:an aU 244=true:=by kernel_rfl
theorem abu:an aU 245=true:=by kernel_rfl
theorem SZ:an aU 256=true:=by kernel_rfl
theorem abt:an aU 257=true:=by kernel_rfl
theorem Pm:an aU 258=true:=by kernel_rfl
theorem abs:an aU 259=true:=by kernel_rfl
theorem abr:an aU 260=true:=by kernel_rfl
theorem abq:an aU 261=true:=by kernel_rfl
theorem SY:an aU 262=true:=by kernel_rfl
theorem Xv:an aU 263=true:=by kernel_rfl
theorem abp:an aU 264=true:=by kernel_rfl
theorem Xu:an aU 265=true:=by kernel_rfl
theorem Xt:an aU 266=true:=by kernel_rfl
theorem abo:an aU 267=true:=by kernel_rfl
theorem Xs:an aU 268=true:=by kernel_rfl
theorem abn:an aU 269=true:=by kernel_rfl
theorem abl:an aU 270=true:=by kernel_rfl
theorem Xr:an aU 271=true:=by kernel_rfl
theorem SX:an aU 272=true:=by kernel_rfl
theorem abk:an aU 273=true:=by kernel_rfl
theorem abj:an aU 274=true:=by kernel_rfl
theorem Xq:an aU 275=true:=by kernel_rfl
theorem abi:an aU 276=true:=by kernel_rfl
theorem abh:an aU 279=true:=by kernel_rfl
theorem abg:an aU 280=true:=by kernel_rfl
theorem abf:an aU 281=true:=by kernel_rfl
theorem Xp:an aU 282=true:=by kernel_rfl
theorem abe:an aU 283=true:=by kernel_rfl
theorem abd:an aU 284=true:=by kernel_rfl
theorem SW:an aU 285=true:=by kernel_rfl
theorem abc:an aU 286=true:=by kernel_rfl
theorem abb:an aU 287=true:=by kernel_rfl
theorem Pk:an aU 288=true:=by kernel_rfl
theorem SV:an aU 289=true:=by kernel_rfl
theorem aba:an aU 290=true:=by kernel_rfl
theorem aa9:an aU 291=true:=by kernel_rfl
theorem aa8:an aU 292=true:=by kernel_rfl
theorem aa7:an aU 293=true:=by kernel_rfl
theorem SU:an aU 294=true:=by kernel_rfl
theorem Xo:an aU 295=true:=by kernel_rfl
theorem Pj:an aU 296=true:=by kernel_rfl
theorem Xn:an aU 310=true:=by kernel_rfl
theorem Xm:an aU 311=true:=by kernel_rfl
theorem Xl:an aU 312=true:=by kernel_rfl
theorem aa6:an aU 321=true:=by kernel_rfl
theorem aa5:an aU 322=true:=by kernel_rfl
theorem aa4:an aU 323=true:=by kernel_rfl
theorem Xk:an aU 324=true:=by kernel_rfl
theorem aa3:an aU 325=true:=by kernel_rfl
theorem aa2:an aU 326=true:=by kernel_rfl
theorem ST:an aU 327=true:=by kernel_rfl
theorem aa1:an aU 328=true:=by kernel_rfl
theorem aa0:an aU 329=true:=by kernel_rfl
theorem Pi:an aU 330=true:=by kernel_rfl
theorem aaZ:an aU 331=true:=by kernel_rfl
theorem aaY:an aU 332=true:=by kernel_rfl
theorem aaX:an aU 333=true:=by kernel_rfl
theorem aaW:an aU 334=true:=by kernel_rfl
theorem Ph:an aU 335=true:=by kernel_rfl
theorem Xj:an aU 336=true:=by kernel_rfl
theorem aaV:an aU 337=true:=by kernel_rfl
theorem aaU:an aU 338=true:=by kernel_rfl
theorem aaT:an aU 339=true:=by kernel_rfl
theorem aaS:an aU 340=true:=by kernel_rfl
theorem aaR:an aU 341=true:=by kernel_rfl
theorem aaQ:an aU 343=true:=by kernel_rfl
theorem aaP:an aU 344=true:=by kernel_rfl
theorem aaO:an aU 345=true:=by kernel_rfl
theorem aaN:an aU 346=true:=by kernel_rfl
theorem Xi:an aU 348=true:=by kernel_rfl
theorem Xh:an aU 349=true:=by kernel_rfl
theorem Xg:an aU 363=true:=by kernel_rfl
theorem aaM:an aU 364=true:=by kernel_rfl
theorem aaL:an aU 365=true:=by kernel_rfl
theorem aaK:an aU 366=true:=by kernel_rfl
theorem aaJ:an aU 376=true:=by kernel_rfl
theorem aaH:an aU 382=true:=by kernel_rfl
theorem acF:ZV aU 97 (.nilFunc):=(show(Tryz.prog.info? 97).bind (fun i=>i.zero)=some (.nilFunc) by kernel_rfl)
theorem ZC:ZV aU 222 (.nilFunc):=(show(Tryz.prog.info? 222).bind (fun i=>i.zero)=some (.nilFunc) by kernel_rfl)
theorem ZB:ZV aU 238 (.nilFunc):=(show(Tryz.prog.info? 238).bind (fun i=>i.zero)=some (.nilFunc) by kernel_rfl)
theorem aau:qN aU 46 af 2:=Nn (n:=1) (fs:=[(3,0,false),(2,1,false),(44,2,false),(9,3,false)]) (by kernel_rfl) (by kernel_rfl) rfl (Tw.cons cg rfl rfl br (um (By (n:=0) lj) 0) (Tw.cons uq rfl rfl bY (um (By (n:=0) vh) 0) (Tw.cons fU rfl rfl hY (um (By (n:=0) uW) 0) (Tw.cons B6 rfl rfl dy (um (Wd (n:=0) v7) 0) Tw.nil)))) (fun x y=>by cases x;cases y;simp [Bool.decide_and])
theorem Cr:TH aU 46 af:=TH.of (by kernel_rfl) (um aau 18)
theorem aaw:TH aU 185 (n8 (rI .u64) 8):=TH.of (by kernel_rfl) (um (Pc (n:=1) pi fU rfl rfl (By (n:=0) uW)) 18)
theorem aav:TH aU 243 (n8 (rI .i64) 2):=TH.of (by kernel_rfl) (um (Pc (n:=1) Tryz.underlying243 cg rfl rfl (By (n:=0) lj)) 18)

end Go.Proofs.YtfhhakidodmdfaaGreatDoor

