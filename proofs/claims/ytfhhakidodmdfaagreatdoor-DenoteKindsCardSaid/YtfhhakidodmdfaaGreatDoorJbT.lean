/- db of this claim: T. -/
import Derived.Test.YtfhhakidodmdfaaGreatDoorJbD
import Derived.Test.YtfhhakidodmdfaaGreatDoorProg
import Derived.Test.YtfhhakidodmdfaaGreatDoorJbS
import Derived.Test.YtfhhakidodmdfaaGreatDoorJbV4
import Derived.KernelRfl
set_option linter.all false
namespace Go.Proofs.YtfhhakidodmdfaaGreatDoor
open Go
noncomputable abbrev aO:=Tryz.prog
def gM:= @Tryz.underlying39
def jW:= @Tryz.underlying32
def iK:= @Tryz.underlying43
def j7:= @Tryz.underlying42
def kW:= @Tryz.underlying3
def ot:= @Tryz.underlying25
def uq:= @Tryz.underlying47
def vv:= @Tryz.underlying113
def uF:= @Tryz.underlying22
def uE:= @Tryz.underlying68
def vu:= @Tryz.underlying69
def wD:= @Tryz.underlying219
def Ag:= @Tryz.underlying44
def Ae:= @Tryz.underlying2
def Dy:= @Tryz.underlying57
def Am:= @Tryz.underlying239
def Cr:= @Tryz.underlying9
def Ak:= @Tryz.underlying98
def No:= @Tryz.underlying4
def Gi:= @Tryz.underlying150

theorem mixed:Tryz.prog.follows .mixedOrders=true:=by kernel_rfl
theorem FM:TI aO 2 1 8 false [.int .i64 0]:=⟨by kernel_rfl,by kernel_rfl⟩
theorem cr:TI aO 3 1 8 false [.int .i64 0]:=⟨by kernel_rfl,by kernel_rfl⟩
theorem Ji:TI aO 4 1 1 false [.bool false]:=⟨by kernel_rfl,by kernel_rfl⟩
theorem Tc:TI aO 9 1 16 false [.string ⟨#[]⟩]:=⟨by kernel_rfl,by kernel_rfl⟩
theorem BD:TI aO 22 1 24 false [.slice none 0 0]:=⟨by kernel_rfl,by kernel_rfl⟩
theorem oW:TI aO 24 1 24 true [.slice none 0 0]:=⟨by kernel_rfl,by kernel_rfl⟩
theorem uP:TI aO 25 1 24 false [.slice none 0 0]:=⟨by kernel_rfl,by kernel_rfl⟩
theorem HA:TI aO 27 1 24 true [.slice none 0 0]:=⟨by kernel_rfl,by kernel_rfl⟩
theorem gF:TI aO 32 1 24 false [.slice none 0 0]:=⟨by kernel_rfl,by kernel_rfl⟩
theorem LA:TI aO 33 1 8 false [.int .i64 0]:=⟨by kernel_rfl,by kernel_rfl⟩
theorem d9:TI aO 39 1 24 false [.slice none 0 0]:=⟨by kernel_rfl,by kernel_rfl⟩
theorem Hz:TI aO 42 1 24 false [.slice none 0 0]:=⟨by kernel_rfl,by kernel_rfl⟩
theorem d3:TI aO 43 1 24 false [.slice none 0 0]:=⟨by kernel_rfl,by kernel_rfl⟩
theorem Lz:TI aO 44 1 8 false [.int .u64 0]:=⟨by kernel_rfl,by kernel_rfl⟩
theorem aH:TI aO 46 4 40 true [.int .i64 0,.int .i64 0,.int .u64 0,.string ⟨#[]⟩]:=⟨by kernel_rfl,by kernel_rfl⟩
theorem yz:TI aO 47 1 24 false [.slice none 0 0]:=⟨by kernel_rfl,by kernel_rfl⟩
theorem jC:TI aO 49 1 24 true [.slice none 0 0]:=⟨by kernel_rfl,by kernel_rfl⟩
theorem rW:TI aO 51 2 32 true [.int .i64 0,.slice none 0 0]:=⟨by kernel_rfl,by kernel_rfl⟩
theorem QA:TI aO 53 1 8 false [.nilFunc]:=⟨by kernel_rfl,by kernel_rfl⟩
theorem Hy:TI aO 57 1 24 false [.slice none 0 0]:=⟨by kernel_rfl,by kernel_rfl⟩
theorem Jh:TI aO 60 2 16 true [.int .i64 0,.bool false]:=⟨by kernel_rfl,by kernel_rfl⟩
theorem Ar:TI aO 68 1 24 false [.slice none 0 0]:=⟨by kernel_rfl,by kernel_rfl⟩
theorem zl:TI aO 69 1 24 false [.slice none 0 0]:=⟨by kernel_rfl,by kernel_rfl⟩
theorem gN:TI aO 71 12 192 true [.int .i64 0,.int .i64 0,.int .i64 0,.int .i64 0,.slice none 0 0,.bool false,.slice none 0 0,.slice none 0 0,.slice none 0 0,.slice none 0 0,.slice none 0 0,.int .i64 0]:=⟨by kernel_rfl,by kernel_rfl⟩
theorem oB:TI aO 80 8 72 true [.int .i64 0,.int .i64 0,.int .i64 0,.int .i64 0,.int .i64 0,.int .i64 0,.int .u64 0,.string ⟨#[]⟩]:=⟨by kernel_rfl,by kernel_rfl⟩
theorem abZ:TI aO 96 3 72 true [.slice none 0 0,.slice none 0 0,.slice none 0 0]:=⟨by kernel_rfl,by kernel_rfl⟩
theorem kK:TI aO 109 1 8 false [.pointer none]:=⟨by kernel_rfl,by kernel_rfl⟩
theorem sN:TI aO 113 1 24 false [.slice none 0 0]:=⟨by kernel_rfl,by kernel_rfl⟩
theorem Zh:TI aO 115 3 72 true [.slice none 0 0,.slice none 0 0,.slice none 0 0]:=⟨by kernel_rfl,by kernel_rfl⟩
theorem Zg:TI aO 123 1 8 false [.nilFunc]:=⟨by kernel_rfl,by kernel_rfl⟩
theorem Zf:TI aO 131 1 8 false [.nilFunc]:=⟨by kernel_rfl,by kernel_rfl⟩
theorem Nr:TI aO 143 1 24 false [.slice none 0 0]:=⟨by kernel_rfl,by kernel_rfl⟩
theorem Nq:TI aO 150 1 24 false [.slice none 0 0]:=⟨by kernel_rfl,by kernel_rfl⟩
theorem As:TI aO 154 2 48 true [.slice none 0 0,.slice none 0 0]:=⟨by kernel_rfl,by kernel_rfl⟩
theorem QB:TI aO 219 1 8 false [.map none]:=⟨by kernel_rfl,by kernel_rfl⟩
theorem V4:TI aO 222 1 8 false [.nilFunc]:=⟨by kernel_rfl,by kernel_rfl⟩
theorem Jj:TI aO 243 2 16 true (List.replicate 2 (.int .i64 0)):=⟨by kernel_rfl,by kernel_rfl⟩
theorem qG:cP aO 24 0=some (0,1):=by kernel_rfl
theorem zK:cP aO 27 0=some (0,1):=by kernel_rfl
theorem gK:cP aO 46 0=some (0,1):=by kernel_rfl
theorem lO:cP aO 46 1=some (1,1):=by kernel_rfl
theorem BX:cP aO 46 2=some (2,1):=by kernel_rfl
theorem xo:cP aO 46 3=some (3,1):=by kernel_rfl
theorem ow:cP aO 49 0=some (0,1):=by kernel_rfl
theorem xn:cP aO 51 0=some (0,1):=by kernel_rfl
theorem zJ:cP aO 51 1=some (1,1):=by kernel_rfl
theorem Ij:cP aO 60 0=some (0,1):=by kernel_rfl
theorem XX:cP aO 60 1=some (1,1):=by kernel_rfl
theorem zI:cP aO 71 0=some (0,1):=by kernel_rfl
theorem jT:cP aO 71 1=some (1,1):=by kernel_rfl
theorem rG:cP aO 71 2=some (2,1):=by kernel_rfl
theorem uC:cP aO 71 3=some (3,1):=by kernel_rfl
theorem uB:cP aO 71 4=some (4,1):=by kernel_rfl
theorem Mz:cP aO 71 5=some (5,1):=by kernel_rfl
theorem tg:cP aO 71 6=some (6,1):=by kernel_rfl
theorem tf:cP aO 71 7=some (7,1):=by kernel_rfl
theorem p8:cP aO 71 8=some (8,1):=by kernel_rfl
theorem p7:cP aO 71 9=some (9,1):=by kernel_rfl
theorem ub:cP aO 71 10=some (10,1):=by kernel_rfl
theorem AY:cP aO 71 11=some (11,1):=by kernel_rfl
theorem pb:cP aO 80 0=some (0,1):=by kernel_rfl
theorem XW:cP aO 80 1=some (1,1):=by kernel_rfl
theorem XV:cP aO 80 2=some (2,1):=by kernel_rfl
theorem zG:cP aO 80 3=some (3,1):=by kernel_rfl
theorem BW:cP aO 80 4=some (4,4):=by kernel_rfl
theorem XU:cP aO 96 0=some (0,1):=by kernel_rfl
theorem qF:cP aO 96 1=some (1,1):=by kernel_rfl
theorem My:cP aO 96 2=some (2,1):=by kernel_rfl
theorem Ik:cP aO 115 0=some (0,1):=by kernel_rfl
theorem nt:cP aO 115 1=some (1,1):=by kernel_rfl
theorem uc:cP aO 115 2=some (2,1):=by kernel_rfl
theorem Ua:cP aO 154 0=some (0,1):=by kernel_rfl
theorem T9:cP aO 154 1=some (1,1):=by kernel_rfl
theorem XR:mZ aO 24=some [(0,1)]:=by kernel_rfl
theorem ab9:mZ aO 27=some [(0,1)]:=by kernel_rfl
theorem ql:mZ aO 46=some [(0,1),(1,1),(2,1),(3,1)]:=by kernel_rfl
theorem XQ:mZ aO 49=some [(0,1)]:=by kernel_rfl
theorem ZI:mZ aO 51=some [(0,1),(1,1)]:=by kernel_rfl
theorem ZH:mZ aO 71=some [(0,1),(1,1),(2,1),(3,1),(4,1),(5,1),(6,1),(7,1),(8,1),(9,1),(10,1),(11,1)]:=by kernel_rfl
theorem ab8:mZ aO 80=some [(0,1),(1,1),(2,1),(3,1),(4,4)]:=by kernel_rfl
theorem ab7:mZ aO 96=some [(0,1),(1,1),(2,1)]:=by kernel_rfl
theorem ZJ:mZ aO 115=some [(0,1),(1,1),(2,1)]:=by kernel_rfl
theorem Wk:mZ aO 154=some [(0,1),(1,1)]:=by kernel_rfl
theorem acM:aj aO 11=true:=by kernel_rfl
theorem acL:aj aO 12=true:=by kernel_rfl
theorem acK:aj aO 13=true:=by kernel_rfl
theorem aby:aj aO 15=true:=by kernel_rfl
theorem acJ:aj aO 16=true:=by kernel_rfl
theorem acI:aj aO 22=true:=by kernel_rfl
theorem aaS:aj aO 23=true:=by kernel_rfl
theorem acH:aj aO 24=true:=by kernel_rfl
theorem YI:aj aO 25=true:=by kernel_rfl
theorem Z6:aj aO 38=true:=by kernel_rfl
theorem acG:aj aO 46=true:=by kernel_rfl
theorem acF:aj aO 47=true:=by kernel_rfl
theorem acE:aj aO 48=true:=by kernel_rfl
theorem YH:aj aO 50=true:=by kernel_rfl
theorem acD:aj aO 51=true:=by kernel_rfl
theorem acC:aj aO 52=true:=by kernel_rfl
theorem acB:aj aO 53=true:=by kernel_rfl
theorem acA:aj aO 54=true:=by kernel_rfl
theorem acz:aj aO 55=true:=by kernel_rfl
theorem acy:aj aO 56=true:=by kernel_rfl
theorem acx:aj aO 57=true:=by kernel_rfl
theorem acw:aj aO 58=true:=by kernel_rfl
theorem acv:aj aO 59=true:=by kernel_rfl
theorem acu:aj aO 60=true:=by kernel_rfl
theorem act:aj aO 61=true:=by kernel_rfl
theorem acs:aj aO 67=true:=by kernel_rfl
theorem acr:aj aO 68=true:=by kernel_rfl
theorem acq:aj aO 69=true:=by kernel_rfl
theorem acp:aj aO 70=true:=by kernel_rfl
theorem aco:aj aO 71=true:=by kernel_rfl
theorem YG:aj aO 72=true:=by kernel_rfl
theorem Sh:aj aO 73=true:=by kernel_rfl
theorem VJ:aj aO 75=true:=by kernel_rfl
theorem acn:aj aO 76=true:=by kernel_rfl
theorem acm:aj aO 86=true:=by kernel_rfl
theorem Z4:aj aO 88=true:=by kernel_rfl
theorem acl:aj aO 89=true:=by kernel_rfl
theorem ack:aj aO 90=true:=by kernel_rfl
theorem acj:aj aO 91=true:=by kernel_rfl
theorem Z3:aj aO 93=true:=by kernel_rfl
theorem YF:aj aO 94=true:=by kernel_rfl
theorem VI:aj aO 95=true:=by kernel_rfl
theorem YE:aj aO 97=true:=by kernel_rfl
theorem aci:aj aO 98=true:=by kernel_rfl
theorem WL:aj aO 101=true:=by kernel_rfl
theorem abP:aj aO 102=true:=by kernel_rfl
theorem WK:aj aO 103=true:=by kernel_rfl
theorem WJ:aj aO 104=true:=by kernel_rfl
theorem abO:aj aO 105=true:=by kernel_rfl
theorem Sw:aj aO 106=true:=by kernel_rfl
theorem Sv:aj aO 107=true:=by kernel_rfl
theorem abN:aj aO 108=true:=by kernel_rfl
theorem WI:aj aO 109=true:=by kernel_rfl
theorem abM:aj aO 110=true:=by kernel_rfl
theorem KP:aj aO 111=true:=by kernel_rfl
theorem abL:aj aO 121=true:=by kernel_rfl
theorem abK:aj aO 122=true:=by kernel_rfl
theorem WH:aj aO 123=true:=by kernel_rfl
theorem abJ:aj aO 124=true:=by kernel_rfl
theorem abI:aj aO 125=true:=by kernel_rfl
theorem abH:aj aO 126=true:=by kernel_rfl
theorem abG:aj aO 129=true:=by kernel_rfl
theorem KO:aj aO 130=true:=by kernel_rfl
theorem abF:aj aO 131=true:=by kernel_rfl
theorem abE:aj aO 132=true:=by kernel_rfl
theorem abD:aj aO 133=true:=by kernel_rfl
theorem abC:aj aO 134=true:=by kernel_rfl
theorem abB:aj aO 135=true:=by kernel_rfl
theorem Su:aj aO 136=true:=by kernel_rfl
theorem abA:aj aO 137=true:=by kernel_rfl
theorem abz:aj aO 149=true:=by kernel_rfl
theorem Sr:aj aO 152=true:=by kernel_rfl
theorem WG:aj aO 153=true:=by kernel_rfl
theorem abx:aj aO 154=true:=by kernel_rfl
theorem abw:aj aO 157=true:=by kernel_rfl
theorem abv:aj aO 158=true:=by kernel_rfl
theorem abu:aj aO 159=true:=by kernel_rfl
theorem abt:aj aO 160=true:=by kernel_rfl
theorem abs:aj aO 161=true:=by kernel_rfl
theorem abr:aj aO 162=true:=by kernel_rfl
theorem abq:aj aO 170=true:=by kernel_rfl
theorem abp:aj aO 171=true:=by kernel_rfl
theorem abo:aj aO 172=true:=by kernel_rfl
theorem abn:aj aO 173=true:=by kernel_rfl
theorem WF:aj aO 174=true:=by kernel_rfl
theorem abm:aj aO 175=true:=by kernel_rfl
theorem Sq:aj aO 176=true:=by kernel_rfl
theorem KN:aj aO 177=true:=by kernel_rfl
theorem abl:aj aO 178=true:=by kernel_rfl
theorem abk:aj aO 179=true:=by kernel_rfl
theorem abj:aj aO 180=true:=by kernel_rfl
theorem WE:aj aO 181=true:=by kernel_rfl
theorem OJ:aj aO 182=true:=by kernel_rfl
theorem abi:aj aO 183=true:=by kernel_rfl
theorem abh:aj aO 184=true:=by kernel_rfl
theorem abg:aj aO 185=true:=by kernel_rfl
theorem abf:aj aO 186=true:=by kernel_rfl
theorem abe:aj aO 187=true:=by kernel_rfl
theorem Sp:aj aO 188=true:=by kernel_rfl
theorem abd:aj aO 189=true:=by kernel_rfl
theorem abc:aj aO 190=true:=by kernel_rfl
theorem abb:aj aO 191=true:=by kernel_rfl
theorem aba:aj aO 200=true:=by kernel_rfl
theorem aa9:aj aO 201=true:=by kernel_rfl
theorem aa8:aj aO 202=true:=by kernel_rfl
theorem aa7:aj aO 203=true:=by kernel_rfl
theorem aa6:aj aO 204=true:=by kernel_rfl
theorem aa5:aj aO 205=true:=by kernel_rfl
theorem aa4:aj aO 206=true:=by kernel_rfl
theorem aa3:aj aO 207=true:=by kernel_rfl
theorem aa2:aj aO 208=true:=by kernel_rfl
theorem aa1:aj aO 209=true:=by kernel_rfl
theorem aa0:aj aO 210=true:=by kernel_rfl
theorem aaZ:aj aO 211=true:=by kernel_rfl
theorem aaY:aj aO 212=true:=by kernel_rfl
theorem OH:aj aO 213=true:=by kernel_rfl
theorem aaX:aj aO 214=true:=by kernel_rfl
theorem aaW:aj aO 215=true:=by kernel_rfl
theorem So:aj aO 216=true:=by kernel_rfl
theorem aaV:aj aO 217=true:=by kernel_rfl
theorem aaU:aj aO 218=true:=by kernel_rfl
theorem aaT:aj aO 229=true:=by kernel_rfl
theorem aaR:aj aO 242=true:=by kernel_rfl
theorem WD:aj aO 243=true:=by kernel_rfl
theorem aaQ:aj aO 244=true:=by kernel_rfl
theorem aaP:aj aO 245=true:=by kernel_rfl
theorem Sn:aj aO 256=true:=by kernel_rfl
theorem aaO:aj aO 257=true:=by kernel_rfl
theorem OG:aj aO 258=true:=by kernel_rfl
theorem aaN:aj aO 259=true:=by kernel_rfl
theorem aaM:aj aO 260=true:=by kernel_rfl
theorem aaL:aj aO 261=true:=by kernel_rfl
theorem Sm:aj aO 262=true:=by kernel_rfl
theorem WC:aj aO 263=true:=by kernel_rfl
theorem aaK:aj aO 264=true:=by kernel_rfl
theorem WB:aj aO 265=true:=by kernel_rfl
theorem WA:aj aO 266=true:=by kernel_rfl
theorem aaJ:aj aO 267=true:=by kernel_rfl
theorem Wz:aj aO 268=true:=by kernel_rfl
theorem aaI:aj aO 269=true:=by kernel_rfl
theorem aaH:aj aO 270=true:=by kernel_rfl
theorem Wy:aj aO 271=true:=by kernel_rfl
theorem Sl:aj aO 272=true:=by kernel_rfl
theorem aaG:aj aO 273=true:=by kernel_rfl
theorem aaF:aj aO 274=true:=by kernel_rfl
theorem Wx:aj aO 275=true:=by kernel_rfl
theorem aaE:aj aO 276=true:=by kernel_rfl
theorem aaD:aj aO 279=true:=by kernel_rfl
theorem aaC:aj aO 280=true:=by kernel_rfl
theorem aaB:aj aO 281=true:=by kernel_rfl
theorem Ww:aj aO 282=true:=by kernel_rfl
theorem aaA:aj aO 283=true:=by kernel_rfl
theorem aaz:aj aO 284=true:=by kernel_rfl
theorem Sk:aj aO 285=true:=by kernel_rfl
theorem aay:aj aO 286=true:=by kernel_rfl
theorem aax:aj aO 287=true:=by kernel_rfl
theorem OF:aj aO 288=true:=by kernel_rfl
theorem Sj:aj aO 289=true:=by kernel_rfl
theorem aaw:aj aO 290=true:=by kernel_rfl
theorem Wv:aj aO 310=true:=by kernel_rfl
theorem Wu:aj aO 311=true:=by kernel_rfl
theorem Wt:aj aO 312=true:=by kernel_rfl
theorem aav:aj aO 321=true:=by kernel_rfl
theorem aau:aj aO 322=true:=by kernel_rfl
theorem aat:aj aO 323=true:=by kernel_rfl
theorem Ws:aj aO 324=true:=by kernel_rfl
theorem aar:aj aO 325=true:=by kernel_rfl
theorem aaq:aj aO 326=true:=by kernel_rfl
theorem Si:aj aO 327=true:=by kernel_rfl
theorem aap:aj aO 328=true:=by kernel_rfl
theorem aao:aj aO 329=true:=by kernel_rfl
theorem OD:aj aO 330=true:=by kernel_rfl
theorem aan:aj aO 331=true:=by kernel_rfl
theorem aam:aj aO 332=true:=by kernel_rfl
theorem aal:aj aO 333=true:=by kernel_rfl
theorem aak:aj aO 334=true:=by kernel_rfl
theorem OC:aj aO 335=true:=by kernel_rfl
theorem Wr:aj aO 336=true:=by kernel_rfl
theorem aaj:aj aO 337=true:=by kernel_rfl
theorem aai:aj aO 338=true:=by kernel_rfl
theorem aah:aj aO 339=true:=by kernel_rfl
theorem aag:aj aO 340=true:=by kernel_rfl
theorem aaf:aj aO 341=true:=by kernel_rfl
theorem aae:aj aO 343=true:=by kernel_rfl
theorem aad:aj aO 344=true:=by kernel_rfl
theorem aac:aj aO 345=true:=by kernel_rfl
theorem aab:aj aO 346=true:=by kernel_rfl
theorem Wq:aj aO 363=true:=by kernel_rfl
theorem aaa:aj aO 364=true:=by kernel_rfl
theorem Z9:aj aO 365=true:=by kernel_rfl
theorem Z8:aj aO 366=true:=by kernel_rfl
theorem Z7:aj aO 376=true:=by kernel_rfl
theorem Z5:aj aO 382=true:=by kernel_rfl
theorem abV:ZV aO 97 (.nilFunc):=(show(Tryz.prog.info? 97).bind (fun i=>i.zero)=some (.nilFunc) by kernel_rfl)
theorem YU:ZV aO 222 (.nilFunc):=(show(Tryz.prog.info? 222).bind (fun i=>i.zero)=some (.nilFunc) by kernel_rfl)
theorem YT:ZV aO 238 (.nilFunc):=(show(Tryz.prog.info? 238).bind (fun i=>i.zero)=some (.nilFunc) by kernel_rfl)
theorem ZW:rt aO 46 af 2:=MG (n:=1) (fs:=[(3,0,false),(2,1,false),(44,2,false),(9,3,false)]) (by kernel_rfl) (by kernel_rfl) rfl (SP.cons cr rfl rfl cy (vn (Dt (n:=0) kW) 0) (SP.cons FM rfl rfl fz (vn (Dt (n:=0) Ae) 0) (SP.cons Lz rfl rfl qC (vn (Dt (n:=0) Ag) 0) (SP.cons Tc rfl rfl nR (vn (VB (n:=0) Cr) 0) SP.nil)))) (fun x y=>by cases x;cases y;simp [Bool.decide_and])
theorem PH:WR aO 46 af:=WR.of (by kernel_rfl) (vn ZW 18)
theorem ZX:WR aO 243 (uz (rI .i64) 2):=WR.of (by kernel_rfl) (vn (VC (n:=1) Tryz.underlying243 cr rfl rfl (Dt (n:=0) kW)) 18)

end Go.Proofs.YtfhhakidodmdfaaGreatDoor

