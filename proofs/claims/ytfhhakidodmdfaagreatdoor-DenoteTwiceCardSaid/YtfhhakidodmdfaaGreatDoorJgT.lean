/- cP of this claim: T. -/
import Derived.Test.YtfhhakidodmdfaaGreatDoorJgD
import Derived.Test.YtfhhakidodmdfaaGreatDoorProg
import Derived.Test.YtfhhakidodmdfaaGreatDoorJgS
import Derived.Test.YtfhhakidodmdfaaGreatDoorJgV4
import Derived.KernelRfl
set_option linter.all false
namespace Go.Proofs.YtfhhakidodmdfaaGreatDoor
open Go
noncomputable abbrev aQ:=Tryz.prog
def gT:= @Tryz.underlying39
def jF:= @Tryz.underlying32
def jh:= @Tryz.underlying43
def ki:= @Tryz.underlying42
def kY:= @Tryz.underlying3
def oA:= @Tryz.underlying25
def qE:= @Tryz.underlying22
def vQ:= @Tryz.underlying113
def vP:= @Tryz.underlying47
def wT:= @Tryz.underlying68
def xg:= @Tryz.underlying219
def xf:= @Tryz.underlying69
def AF:= @Tryz.underlying44
def AD:= @Tryz.underlying2
def DW:= @Tryz.underlying57
def AO:= @Tryz.underlying239
def CR:= @Tryz.underlying9
def AM:= @Tryz.underlying98
def NP:= @Tryz.underlying4
def GF:= @Tryz.underlying150

theorem mixed:Tryz.prog.follows .mixedOrders=true:=by kernel_rfl
theorem F8:TI aQ 2 1 8 false [.int .i64 0]:=⟨by kernel_rfl,by kernel_rfl⟩
theorem cx:TI aQ 3 1 8 false [.int .i64 0]:=⟨by kernel_rfl,by kernel_rfl⟩
theorem H4:TI aQ 4 1 1 false [.bool false]:=⟨by kernel_rfl,by kernel_rfl⟩
theorem TE:TI aQ 9 1 16 false [.string ⟨#[]⟩]:=⟨by kernel_rfl,by kernel_rfl⟩
theorem vc:TI aQ 22 1 24 false [.slice none 0 0]:=⟨by kernel_rfl,by kernel_rfl⟩
theorem hY:TI aQ 24 1 24 true [.slice none 0 0]:=⟨by kernel_rfl,by kernel_rfl⟩
theorem vb:TI aQ 25 1 24 false [.slice none 0 0]:=⟨by kernel_rfl,by kernel_rfl⟩
theorem Ek:TI aQ 27 1 24 true [.slice none 0 0]:=⟨by kernel_rfl,by kernel_rfl⟩
theorem gF:TI aQ 32 1 24 false [.slice none 0 0]:=⟨by kernel_rfl,by kernel_rfl⟩
theorem Md:TI aQ 33 1 8 false [.int .i64 0]:=⟨by kernel_rfl,by kernel_rfl⟩
theorem d9:TI aQ 39 1 24 false [.slice none 0 0]:=⟨by kernel_rfl,by kernel_rfl⟩
theorem H3:TI aQ 42 1 24 false [.slice none 0 0]:=⟨by kernel_rfl,by kernel_rfl⟩
theorem dW:TI aQ 43 1 24 false [.slice none 0 0]:=⟨by kernel_rfl,by kernel_rfl⟩
theorem Mc:TI aQ 44 1 8 false [.int .u64 0]:=⟨by kernel_rfl,by kernel_rfl⟩
theorem aH:TI aQ 46 4 40 true [.int .i64 0,.int .i64 0,.int .u64 0,.string ⟨#[]⟩]:=⟨by kernel_rfl,by kernel_rfl⟩
theorem AU:TI aQ 47 1 24 false [.slice none 0 0]:=⟨by kernel_rfl,by kernel_rfl⟩
theorem j3:TI aQ 49 1 24 true [.slice none 0 0]:=⟨by kernel_rfl,by kernel_rfl⟩
theorem ug:TI aQ 51 2 32 true [.int .i64 0,.slice none 0 0]:=⟨by kernel_rfl,by kernel_rfl⟩
theorem H2:TI aQ 57 1 24 false [.slice none 0 0]:=⟨by kernel_rfl,by kernel_rfl⟩
theorem JH:TI aQ 60 2 16 true [.int .i64 0,.bool false]:=⟨by kernel_rfl,by kernel_rfl⟩
theorem B4:TI aQ 68 1 24 false [.slice none 0 0]:=⟨by kernel_rfl,by kernel_rfl⟩
theorem AS:TI aQ 69 1 24 false [.slice none 0 0]:=⟨by kernel_rfl,by kernel_rfl⟩
theorem fK:TI aQ 71 12 192 true [.int .i64 0,.int .i64 0,.int .i64 0,.int .i64 0,.slice none 0 0,.bool false,.slice none 0 0,.slice none 0 0,.slice none 0 0,.slice none 0 0,.slice none 0 0,.int .i64 0]:=⟨by kernel_rfl,by kernel_rfl⟩
theorem oW:TI aQ 80 8 72 true [.int .i64 0,.int .i64 0,.int .i64 0,.int .i64 0,.int .i64 0,.int .i64 0,.int .u64 0,.string ⟨#[]⟩]:=⟨by kernel_rfl,by kernel_rfl⟩
theorem acj:TI aQ 81 2 2 true (List.replicate 2 (.bool false)):=⟨by kernel_rfl,by kernel_rfl⟩
theorem aci:TI aQ 96 3 72 true [.slice none 0 0,.slice none 0 0,.slice none 0 0]:=⟨by kernel_rfl,by kernel_rfl⟩
theorem kP:TI aQ 109 1 8 false [.pointer none]:=⟨by kernel_rfl,by kernel_rfl⟩
theorem ta:TI aQ 113 1 24 false [.slice none 0 0]:=⟨by kernel_rfl,by kernel_rfl⟩
theorem ZG:TI aQ 115 3 72 true [.slice none 0 0,.slice none 0 0,.slice none 0 0]:=⟨by kernel_rfl,by kernel_rfl⟩
theorem ZF:TI aQ 123 1 8 false [.nilFunc]:=⟨by kernel_rfl,by kernel_rfl⟩
theorem ZE:TI aQ 131 1 8 false [.nilFunc]:=⟨by kernel_rfl,by kernel_rfl⟩
theorem NR:TI aQ 143 1 24 false [.slice none 0 0]:=⟨by kernel_rfl,by kernel_rfl⟩
theorem NQ:TI aQ 150 1 24 false [.slice none 0 0]:=⟨by kernel_rfl,by kernel_rfl⟩
theorem AV:TI aQ 154 2 48 true [.slice none 0 0,.slice none 0 0]:=⟨by kernel_rfl,by kernel_rfl⟩
theorem QX:TI aQ 219 1 8 false [.map none]:=⟨by kernel_rfl,by kernel_rfl⟩
theorem Wr:TI aQ 222 1 8 false [.nilFunc]:=⟨by kernel_rfl,by kernel_rfl⟩
theorem JI:TI aQ 243 2 16 true (List.replicate 2 (.int .i64 0)):=⟨by kernel_rfl,by kernel_rfl⟩
theorem lZ:cR aQ 24 0=some (0,1):=by kernel_rfl
theorem Aj:cR aQ 27 0=some (0,1):=by kernel_rfl
theorem hZ:cR aQ 46 0=some (0,1):=by kernel_rfl
theorem lY:cR aQ 46 1=some (1,1):=by kernel_rfl
theorem Cp:cR aQ 46 2=some (2,1):=by kernel_rfl
theorem xX:cR aQ 46 3=some (3,1):=by kernel_rfl
theorem qn:cR aQ 49 0=some (0,1):=by kernel_rfl
theorem Ai:cR aQ 51 0=some (0,1):=by kernel_rfl
theorem Co:cR aQ 51 1=some (1,1):=by kernel_rfl
theorem IN:cR aQ 60 0=some (0,1):=by kernel_rfl
theorem Yo:cR aQ 60 1=some (1,1):=by kernel_rfl
theorem Ah:cR aQ 71 0=some (0,1):=by kernel_rfl
theorem ju:cR aQ 71 1=some (1,1):=by kernel_rfl
theorem qm:cR aQ 71 2=some (2,1):=by kernel_rfl
theorem uX:cR aQ 71 3=some (3,1):=by kernel_rfl
theorem uW:cR aQ 71 4=some (4,1):=by kernel_rfl
theorem M0:cR aQ 71 5=some (5,1):=by kernel_rfl
theorem uV:cR aQ 71 6=some (6,1):=by kernel_rfl
theorem tN:cR aQ 71 7=some (7,1):=by kernel_rfl
theorem qX:cR aQ 71 8=some (8,1):=by kernel_rfl
theorem qW:cR aQ 71 9=some (9,1):=by kernel_rfl
theorem uC:cR aQ 71 10=some (10,1):=by kernel_rfl
theorem Br:cR aQ 71 11=some (11,1):=by kernel_rfl
theorem ql:cR aQ 80 0=some (0,1):=by kernel_rfl
theorem Yn:cR aQ 80 1=some (1,1):=by kernel_rfl
theorem Ym:cR aQ 80 2=some (2,1):=by kernel_rfl
theorem Ag:cR aQ 80 3=some (3,1):=by kernel_rfl
theorem Cn:cR aQ 80 4=some (4,4):=by kernel_rfl
theorem Yl:cR aQ 96 0=some (0,1):=by kernel_rfl
theorem qV:cR aQ 96 1=some (1,1):=by kernel_rfl
theorem MZ:cR aQ 96 2=some (2,1):=by kernel_rfl
theorem IP:cR aQ 115 0=some (0,1):=by kernel_rfl
theorem nM:cR aQ 115 1=some (1,1):=by kernel_rfl
theorem uD:cR aQ 115 2=some (2,1):=by kernel_rfl
theorem Uz:cR aQ 154 0=some (0,1):=by kernel_rfl
theorem Uy:cR aQ 154 1=some (1,1):=by kernel_rfl
theorem RV:nf aQ 24=some [(0,1)]:=by kernel_rfl
theorem acs:nf aQ 27=some [(0,1)]:=by kernel_rfl
theorem qk:nf aQ 46=some [(0,1),(1,1),(2,1),(3,1)]:=by kernel_rfl
theorem Uv:nf aQ 49=some [(0,1)]:=by kernel_rfl
theorem Z6:nf aQ 51=some [(0,1),(1,1)]:=by kernel_rfl
theorem Uu:nf aQ 71=some [(0,1),(1,1),(2,1),(3,1),(4,1),(5,1),(6,1),(7,1),(8,1),(9,1),(10,1),(11,1)]:=by kernel_rfl
theorem Z5:nf aQ 80=some [(0,1),(1,1),(2,1),(3,1),(4,4)]:=by kernel_rfl
theorem acr:nf aQ 96=some [(0,1),(1,1),(2,1)]:=by kernel_rfl
theorem Z7:nf aQ 115=some [(0,1),(1,1),(2,1)]:=by kernel_rfl
theorem WH:nf aQ 154=some [(0,1),(1,1)]:=by kernel_rfl
theorem ac4:ak aQ 11=true:=by kernel_rfl
theorem ac3:ak aQ 12=true:=by kernel_rfl
theorem ac2:ak aQ 13=true:=by kernel_rfl
theorem V6:ak aQ 15=true:=by kernel_rfl
theorem ac1:ak aQ 16=true:=by kernel_rfl
theorem ac0:ak aQ 23=true:=by kernel_rfl
theorem acZ:ak aQ 24=true:=by kernel_rfl
theorem Y8:ak aQ 25=true:=by kernel_rfl
theorem acY:ak aQ 36=true:=by kernel_rfl
theorem aaw:ak aQ 38=true:=by kernel_rfl
theorem aau:ak aQ 40=true:=by kernel_rfl
theorem acX:ak aQ 41=true:=by kernel_rfl
theorem acW:ak aQ 46=true:=by kernel_rfl
theorem acV:ak aQ 47=true:=by kernel_rfl
theorem acU:ak aQ 48=true:=by kernel_rfl
theorem V5:ak aQ 50=true:=by kernel_rfl
theorem acT:ak aQ 51=true:=by kernel_rfl
theorem acS:ak aQ 52=true:=by kernel_rfl
theorem acR:ak aQ 53=true:=by kernel_rfl
theorem acQ:ak aQ 54=true:=by kernel_rfl
theorem acP:ak aQ 55=true:=by kernel_rfl
theorem acO:ak aQ 56=true:=by kernel_rfl
theorem acN:ak aQ 57=true:=by kernel_rfl
theorem acM:ak aQ 58=true:=by kernel_rfl
theorem aat:ak aQ 59=true:=by kernel_rfl
theorem acL:ak aQ 60=true:=by kernel_rfl
theorem acK:ak aQ 61=true:=by kernel_rfl
theorem Y7:ak aQ 72=true:=by kernel_rfl
theorem SC:ak aQ 73=true:=by kernel_rfl
theorem Y6:ak aQ 75=true:=by kernel_rfl
theorem acJ:ak aQ 76=true:=by kernel_rfl
theorem acI:ak aQ 86=true:=by kernel_rfl
theorem aar:ak aQ 88=true:=by kernel_rfl
theorem acH:ak aQ 89=true:=by kernel_rfl
theorem acG:ak aQ 90=true:=by kernel_rfl
theorem acF:ak aQ 91=true:=by kernel_rfl
theorem acE:ak aQ 92=true:=by kernel_rfl
theorem Y5:ak aQ 93=true:=by kernel_rfl
theorem Y4:ak aQ 94=true:=by kernel_rfl
theorem V4:ak aQ 95=true:=by kernel_rfl
theorem acD:ak aQ 96=true:=by kernel_rfl
theorem V3:ak aQ 97=true:=by kernel_rfl
theorem aaq:ak aQ 98=true:=by kernel_rfl
theorem Xf:ak aQ 101=true:=by kernel_rfl
theorem ab7:ak aQ 102=true:=by kernel_rfl
theorem Xe:ak aQ 103=true:=by kernel_rfl
theorem Xd:ak aQ 104=true:=by kernel_rfl
theorem ab6:ak aQ 105=true:=by kernel_rfl
theorem SR:ak aQ 106=true:=by kernel_rfl
theorem SQ:ak aQ 107=true:=by kernel_rfl
theorem ab5:ak aQ 108=true:=by kernel_rfl
theorem Xc:ak aQ 109=true:=by kernel_rfl
theorem SP:ak aQ 110=true:=by kernel_rfl
theorem Lo:ak aQ 111=true:=by kernel_rfl
theorem ab4:ak aQ 123=true:=by kernel_rfl
theorem ab3:ak aQ 126=true:=by kernel_rfl
theorem ab2:ak aQ 129=true:=by kernel_rfl
theorem Ln:ak aQ 130=true:=by kernel_rfl
theorem ab1:ak aQ 131=true:=by kernel_rfl
theorem ab0:ak aQ 132=true:=by kernel_rfl
theorem abZ:ak aQ 133=true:=by kernel_rfl
theorem abY:ak aQ 134=true:=by kernel_rfl
theorem abX:ak aQ 135=true:=by kernel_rfl
theorem SO:ak aQ 136=true:=by kernel_rfl
theorem abW:ak aQ 137=true:=by kernel_rfl
theorem abV:ak aQ 149=true:=by kernel_rfl
theorem SN:ak aQ 152=true:=by kernel_rfl
theorem Xb:ak aQ 153=true:=by kernel_rfl
theorem abU:ak aQ 154=true:=by kernel_rfl
theorem abT:ak aQ 157=true:=by kernel_rfl
theorem abS:ak aQ 158=true:=by kernel_rfl
theorem abR:ak aQ 159=true:=by kernel_rfl
theorem abQ:ak aQ 160=true:=by kernel_rfl
theorem abP:ak aQ 161=true:=by kernel_rfl
theorem abO:ak aQ 162=true:=by kernel_rfl
theorem abN:ak aQ 170=true:=by kernel_rfl
theorem abM:ak aQ 171=true:=by kernel_rfl
theorem abL:ak aQ 172=true:=by kernel_rfl
theorem abK:ak aQ 173=true:=by kernel_rfl
theorem Xa:ak aQ 174=true:=by kernel_rfl
theorem abJ:ak aQ 175=true:=by kernel_rfl
theorem SM:ak aQ 176=true:=by kernel_rfl
theorem Lm:ak aQ 177=true:=by kernel_rfl
theorem abI:ak aQ 178=true:=by kernel_rfl
theorem abH:ak aQ 179=true:=by kernel_rfl
theorem abG:ak aQ 180=true:=by kernel_rfl
theorem W0:ak aQ 181=true:=by kernel_rfl
theorem Pb:ak aQ 182=true:=by kernel_rfl
theorem abF:ak aQ 183=true:=by kernel_rfl
theorem abE:ak aQ 184=true:=by kernel_rfl
theorem abD:ak aQ 185=true:=by kernel_rfl
theorem abC:ak aQ 186=true:=by kernel_rfl
theorem abB:ak aQ 187=true:=by kernel_rfl
theorem SL:ak aQ 188=true:=by kernel_rfl
theorem abA:ak aQ 189=true:=by kernel_rfl
theorem abz:ak aQ 190=true:=by kernel_rfl
theorem aby:ak aQ 191=true:=by kernel_rfl
theorem abx:ak aQ 201=true:=by kernel_rfl
theorem abw:ak aQ 202=true:=by kernel_rfl
theorem abv:ak aQ 203=true:=by kernel_rfl
theorem abu:ak aQ 204=true:=by kernel_rfl
theorem abt:ak aQ 205=true:=by kernel_rfl
theorem abs:ak aQ 206=true:=by kernel_rfl
theorem abr:ak aQ 207=true:=by kernel_rfl
theorem abq:ak aQ 208=true:=by kernel_rfl
theorem abp:ak aQ 209=true:=by kernel_rfl
theorem abo:ak aQ 210=true:=by kernel_rfl
theorem abn:ak aQ 211=true:=by kernel_rfl
theorem abm:ak aQ 212=true:=by kernel_rfl
theorem Pa:ak aQ 213=true:=by kernel_rfl
theorem abl:ak aQ 214=true:=by kernel_rfl
theorem abk:ak aQ 215=true:=by kernel_rfl
theorem SK:ak aQ 216=true:=by kernel_rfl
theorem abj:ak aQ 217=true:=by kernel_rfl
theorem abi:ak aQ 218=true:=by kernel_rfl
theorem abh:ak aQ 229=true:=by kernel_rfl
theorem abg:ak aQ 242=true:=by kernel_rfl
theorem WZ:ak aQ 243=true:=by kernel_rfl
theorem abf:ak aQ 244=true:=by kernel_rfl
theorem abe:ak aQ 245=true:=by kernel_rfl
theorem SJ:ak aQ 256=true:=by kernel_rfl
theorem abd:ak aQ 257=true:=by kernel_rfl
theorem O9:ak aQ 258=true:=by kernel_rfl
theorem abc:ak aQ 259=true:=by kernel_rfl
theorem abb:ak aQ 260=true:=by kernel_rfl
theorem aba:ak aQ 261=true:=by kernel_rfl
theorem SI:ak aQ 262=true:=by kernel_rfl
theorem WY:ak aQ 263=true:=by kernel_rfl
theorem aa9:ak aQ 264=true:=by kernel_rfl
theorem WX:ak aQ 265=true:=by kernel_rfl
theorem WW:ak aQ 266=true:=by kernel_rfl
theorem aa8:ak aQ 267=true:=by kernel_rfl
theorem WV:ak aQ 268=true:=by kernel_rfl
theorem aa7:ak aQ 269=true:=by kernel_rfl
theorem aa6:ak aQ 270=true:=by kernel_rfl
theorem WU:ak aQ 271=true:=by kernel_rfl
theorem SG:ak aQ 272=true:=by kernel_rfl
theorem aa5:ak aQ 273=true:=by kernel_rfl
theorem aa4:ak aQ 274=true:=by kernel_rfl
theorem WT:ak aQ 275=true:=by kernel_rfl
theorem aa3:ak aQ 276=true:=by kernel_rfl
theorem aa2:ak aQ 279=true:=by kernel_rfl
theorem aa1:ak aQ 280=true:=by kernel_rfl
theorem aa0:ak aQ 281=true:=by kernel_rfl
theorem WS:ak aQ 282=true:=by kernel_rfl
theorem aaZ:ak aQ 283=true:=by kernel_rfl
theorem aaY:ak aQ 284=true:=by kernel_rfl
theorem SF:ak aQ 285=true:=by kernel_rfl
theorem aaX:ak aQ 286=true:=by kernel_rfl
theorem aaW:ak aQ 287=true:=by kernel_rfl
theorem O8:ak aQ 288=true:=by kernel_rfl
theorem SE:ak aQ 289=true:=by kernel_rfl
theorem aaV:ak aQ 290=true:=by kernel_rfl
theorem WR:ak aQ 310=true:=by kernel_rfl
theorem WQ:ak aQ 311=true:=by kernel_rfl
theorem WP:ak aQ 312=true:=by kernel_rfl
theorem aaU:ak aQ 321=true:=by kernel_rfl
theorem aaT:ak aQ 322=true:=by kernel_rfl
theorem aaS:ak aQ 323=true:=by kernel_rfl
theorem WO:ak aQ 324=true:=by kernel_rfl
theorem aaR:ak aQ 325=true:=by kernel_rfl
theorem aaQ:ak aQ 326=true:=by kernel_rfl
theorem SD:ak aQ 327=true:=by kernel_rfl
theorem aaP:ak aQ 328=true:=by kernel_rfl
theorem aaO:ak aQ 329=true:=by kernel_rfl
theorem O7:ak aQ 330=true:=by kernel_rfl
theorem aaN:ak aQ 331=true:=by kernel_rfl
theorem aaM:ak aQ 332=true:=by kernel_rfl
theorem aaL:ak aQ 333=true:=by kernel_rfl
theorem aaK:ak aQ 334=true:=by kernel_rfl
theorem O6:ak aQ 335=true:=by kernel_rfl
theorem WN:ak aQ 336=true:=by kernel_rfl
theorem aaJ:ak aQ 337=true:=by kernel_rfl
theorem aaI:ak aQ 338=true:=by kernel_rfl
theorem aaH:ak aQ 339=true:=by kernel_rfl
theorem aaG:ak aQ 340=true:=by kernel_rfl
theorem aaF:ak aQ 341=true:=by kernel_rfl
theorem aaE:ak aQ 343=true:=by kernel_rfl
theorem aaD:ak aQ 344=true:=by kernel_rfl
theorem aaC:ak aQ 345=true:=by kernel_rfl
theorem aaB:ak aQ 346=true:=by kernel_rfl
theorem WM:ak aQ 363=true:=by kernel_rfl
theorem aaA:ak aQ 364=true:=by kernel_rfl
theorem aaz:ak aQ 365=true:=by kernel_rfl
theorem aay:ak aQ 366=true:=by kernel_rfl
theorem aax:ak aQ 376=true:=by kernel_rfl
theorem aav:ak aQ 382=true:=by kernel_rfl
theorem ace:ZV aQ 97 (.nilFunc):=(show(Tryz.prog.info? 97).bind (fun i=>i.zero)=some (.nilFunc) by kernel_rfl)
theorem Zl:ZV aQ 222 (.nilFunc):=(show(Tryz.prog.info? 222).bind (fun i=>i.zero)=some (.nilFunc) by kernel_rfl)
theorem Zk:ZV aQ 238 (.nilFunc):=(show(Tryz.prog.info? 238).bind (fun i=>i.zero)=some (.nilFunc) by kernel_rfl)
theorem aaj:rN aQ 46 af 2:=Ni (n:=1) (fs:=[(3,0,false),(2,1,false),(44,2,false),(9,3,false)]) (by kernel_rfl) (by kernel_rfl) rfl (Te.cons cx rfl rfl cQ (vH (DP (n:=0) kY) 0) (Te.cons F8 rfl rfl ft (vH (DP (n:=0) AD) 0) (Te.cons Mc rfl rfl qS (vH (DP (n:=0) AF) 0) (Te.cons TE rfl rfl oh (vH (VV (n:=0) CR) 0) Te.nil)))) (fun x y=>by cases x;cases y;simp [Bool.decide_and])
theorem Qh:Xl aQ 46 af:=Xl.of (by kernel_rfl) (vH aaj 18)
theorem aak:Xl aQ 243 (tz (rI .i64) 2):=Xl.of (by kernel_rfl) (vH (VW (n:=1) Tryz.underlying243 cx rfl rfl (DP (n:=0) kY)) 18)

end Go.Proofs.YtfhhakidodmdfaaGreatDoor

