/- cT of this claim: T. -/
import Derived.Test.YtfhhakidodmdfaaGreatDoorJeD
import Derived.Test.YtfhhakidodmdfaaGreatDoorProg
import Derived.Test.YtfhhakidodmdfaaGreatDoorJeS
import Derived.Test.YtfhhakidodmdfaaGreatDoorJeV4
import Derived.KernelRfl
set_option linter.all false
namespace Go.Proofs.YtfhhakidodmdfaaGreatDoor
open Go
noncomputable abbrev aR:=Tryz.prog
def gF:= @Tryz.underlying39
def ja:= @Tryz.underlying32
def iX:= @Tryz.underlying43
def jY:= @Tryz.underlying42
def kC:= @Tryz.underlying3
def mj:= @Tryz.underlying25
def vv:= @Tryz.underlying113
def uF:= @Tryz.underlying22
def wy:= @Tryz.underlying47
def wx:= @Tryz.underlying68
def wK:= @Tryz.underlying219
def wJ:= @Tryz.underlying69
def Ad:= @Tryz.underlying44
def Ab:= @Tryz.underlying2
def Dz:= @Tryz.underlying57
def Ak:= @Tryz.underlying239
def Cr:= @Tryz.underlying9
def Aj:= @Tryz.underlying98
def Nu:= @Tryz.underlying4
def Gk:= @Tryz.underlying150

theorem mixed:Tryz.prog.follows .mixedOrders=true:=by kernel_rfl
theorem FO:TI aR 2 1 8 false [.int .i64 0]:=⟨by kernel_rfl,by kernel_rfl⟩
theorem cu:TI aR 3 1 8 false [.int .i64 0]:=⟨by kernel_rfl,by kernel_rfl⟩
theorem Jq:TI aR 4 1 1 false [.bool false]:=⟨by kernel_rfl,by kernel_rfl⟩
theorem Tc:TI aR 9 1 16 false [.string ⟨#[]⟩]:=⟨by kernel_rfl,by kernel_rfl⟩
theorem BB:TI aR 22 1 24 false [.slice none 0 0]:=⟨by kernel_rfl,by kernel_rfl⟩
theorem oX:TI aR 24 1 24 true [.slice none 0 0]:=⟨by kernel_rfl,by kernel_rfl⟩
theorem ro:TI aR 25 1 24 false [.slice none 0 0]:=⟨by kernel_rfl,by kernel_rfl⟩
theorem DZ:TI aR 27 1 24 true [.slice none 0 0]:=⟨by kernel_rfl,by kernel_rfl⟩
theorem fN:TI aR 32 1 24 false [.slice none 0 0]:=⟨by kernel_rfl,by kernel_rfl⟩
theorem LM:TI aR 33 1 8 false [.int .i64 0]:=⟨by kernel_rfl,by kernel_rfl⟩
theorem d7:TI aR 39 1 24 false [.slice none 0 0]:=⟨by kernel_rfl,by kernel_rfl⟩
theorem HG:TI aR 42 1 24 false [.slice none 0 0]:=⟨by kernel_rfl,by kernel_rfl⟩
theorem dL:TI aR 43 1 24 false [.slice none 0 0]:=⟨by kernel_rfl,by kernel_rfl⟩
theorem LL:TI aR 44 1 8 false [.int .u64 0]:=⟨by kernel_rfl,by kernel_rfl⟩
theorem aG:TI aR 46 4 40 true [.int .i64 0,.int .i64 0,.int .u64 0,.string ⟨#[]⟩]:=⟨by kernel_rfl,by kernel_rfl⟩
theorem Aq:TI aR 47 1 24 false [.slice none 0 0]:=⟨by kernel_rfl,by kernel_rfl⟩
theorem kG:TI aR 49 1 24 true [.slice none 0 0]:=⟨by kernel_rfl,by kernel_rfl⟩
theorem tJ:TI aR 51 2 32 true [.int .i64 0,.slice none 0 0]:=⟨by kernel_rfl,by kernel_rfl⟩
theorem HF:TI aR 57 1 24 false [.slice none 0 0]:=⟨by kernel_rfl,by kernel_rfl⟩
theorem Jp:TI aR 60 2 16 true [.int .i64 0,.bool false]:=⟨by kernel_rfl,by kernel_rfl⟩
theorem BA:TI aR 68 1 24 false [.slice none 0 0]:=⟨by kernel_rfl,by kernel_rfl⟩
theorem Ap:TI aR 69 1 24 false [.slice none 0 0]:=⟨by kernel_rfl,by kernel_rfl⟩
theorem gG:TI aR 71 12 192 true [.int .i64 0,.int .i64 0,.int .i64 0,.int .i64 0,.slice none 0 0,.bool false,.slice none 0 0,.slice none 0 0,.slice none 0 0,.slice none 0 0,.slice none 0 0,.int .i64 0]:=⟨by kernel_rfl,by kernel_rfl⟩
theorem pw:TI aR 80 8 72 true [.int .i64 0,.int .i64 0,.int .i64 0,.int .i64 0,.int .i64 0,.int .i64 0,.int .u64 0,.string ⟨#[]⟩]:=⟨by kernel_rfl,by kernel_rfl⟩
theorem abQ:TI aR 96 3 72 true [.slice none 0 0,.slice none 0 0,.slice none 0 0]:=⟨by kernel_rfl,by kernel_rfl⟩
theorem kF:TI aR 109 1 8 false [.pointer none]:=⟨by kernel_rfl,by kernel_rfl⟩
theorem sK:TI aR 113 1 24 false [.slice none 0 0]:=⟨by kernel_rfl,by kernel_rfl⟩
theorem Ze:TI aR 115 3 72 true [.slice none 0 0,.slice none 0 0,.slice none 0 0]:=⟨by kernel_rfl,by kernel_rfl⟩
theorem Zd:TI aR 123 1 8 false [.nilFunc]:=⟨by kernel_rfl,by kernel_rfl⟩
theorem Zc:TI aR 131 1 8 false [.nilFunc]:=⟨by kernel_rfl,by kernel_rfl⟩
theorem Nx:TI aR 143 1 24 false [.slice none 0 0]:=⟨by kernel_rfl,by kernel_rfl⟩
theorem Nw:TI aR 150 1 24 false [.slice none 0 0]:=⟨by kernel_rfl,by kernel_rfl⟩
theorem Ar:TI aR 154 2 48 true [.slice none 0 0,.slice none 0 0]:=⟨by kernel_rfl,by kernel_rfl⟩
theorem QH:TI aR 219 1 8 false [.map none]:=⟨by kernel_rfl,by kernel_rfl⟩
theorem V0:TI aR 222 1 8 false [.nilFunc]:=⟨by kernel_rfl,by kernel_rfl⟩
theorem Jr:TI aR 243 2 16 true (List.replicate 2 (.int .i64 0)):=⟨by kernel_rfl,by kernel_rfl⟩
theorem qz:cU aR 24 0=some (0,1):=by kernel_rfl
theorem ru:cU aR 27 0=some (0,1):=by kernel_rfl
theorem gZ:cU aR 46 0=some (0,1):=by kernel_rfl
theorem lP:cU aR 46 1=some (1,1):=by kernel_rfl
theorem BW:cU aR 46 2=some (2,1):=by kernel_rfl
theorem xy:cU aR 46 3=some (3,1):=by kernel_rfl
theorem pW:cU aR 49 0=some (0,1):=by kernel_rfl
theorem zL:cU aR 51 0=some (0,1):=by kernel_rfl
theorem BV:cU aR 51 1=some (1,1):=by kernel_rfl
theorem Ir:cU aR 60 0=some (0,1):=by kernel_rfl
theorem XT:cU aR 60 1=some (1,1):=by kernel_rfl
theorem xx:cU aR 71 0=some (0,1):=by kernel_rfl
theorem jP:cU aR 71 1=some (1,1):=by kernel_rfl
theorem rt:cU aR 71 2=some (2,1):=by kernel_rfl
theorem te:cU aR 71 3=some (3,1):=by kernel_rfl
theorem uC:cU aR 71 4=some (4,1):=by kernel_rfl
theorem MG:cU aR 71 5=some (5,1):=by kernel_rfl
theorem uB:cU aR 71 6=some (6,1):=by kernel_rfl
theorem td:cU aR 71 7=some (7,1):=by kernel_rfl
theorem qy:cU aR 71 8=some (8,1):=by kernel_rfl
theorem qx:cU aR 71 9=some (9,1):=by kernel_rfl
theorem uc:cU aR 71 10=some (10,1):=by kernel_rfl
theorem AY:cU aR 71 11=some (11,1):=by kernel_rfl
theorem pV:cU aR 80 0=some (0,1):=by kernel_rfl
theorem XR:cU aR 80 1=some (1,1):=by kernel_rfl
theorem XQ:cU aR 80 2=some (2,1):=by kernel_rfl
theorem zK:cU aR 80 3=some (3,1):=by kernel_rfl
theorem BU:cU aR 80 4=some (4,4):=by kernel_rfl
theorem XP:cU aR 96 0=some (0,1):=by kernel_rfl
theorem qw:cU aR 96 1=some (1,1):=by kernel_rfl
theorem MF:cU aR 96 2=some (2,1):=by kernel_rfl
theorem Is:cU aR 115 0=some (0,1):=by kernel_rfl
theorem nw:cU aR 115 1=some (1,1):=by kernel_rfl
theorem ud:cU aR 115 2=some (2,1):=by kernel_rfl
theorem T8:cU aR 154 0=some (0,1):=by kernel_rfl
theorem T7:cU aR 154 1=some (1,1):=by kernel_rfl
theorem XN:mZ aR 24=some [(0,1)]:=by kernel_rfl
theorem ab0:mZ aR 27=some [(0,1)]:=by kernel_rfl
theorem qb:mZ aR 46=some [(0,1),(1,1),(2,1),(3,1)]:=by kernel_rfl
theorem XM:mZ aR 49=some [(0,1)]:=by kernel_rfl
theorem ZF:mZ aR 51=some [(0,1),(1,1)]:=by kernel_rfl
theorem ZE:mZ aR 71=some [(0,1),(1,1),(2,1),(3,1),(4,1),(5,1),(6,1),(7,1),(8,1),(9,1),(10,1),(11,1)]:=by kernel_rfl
theorem abZ:mZ aR 80=some [(0,1),(1,1),(2,1),(3,1),(4,4)]:=by kernel_rfl
theorem abY:mZ aR 96=some [(0,1),(1,1),(2,1)]:=by kernel_rfl
theorem ZG:mZ aR 115=some [(0,1),(1,1),(2,1)]:=by kernel_rfl
theorem Wg:mZ aR 154=some [(0,1),(1,1)]:=by kernel_rfl
theorem acz:aj aR 11=true:=by kernel_rfl
theorem acy:aj aR 12=true:=by kernel_rfl
theorem acx:aj aR 13=true:=by kernel_rfl
theorem YE:aj aR 15=true:=by kernel_rfl
theorem acw:aj aR 16=true:=by kernel_rfl
theorem acv:aj aR 23=true:=by kernel_rfl
theorem acu:aj aR 24=true:=by kernel_rfl
theorem YD:aj aR 25=true:=by kernel_rfl
theorem act:aj aR 35=true:=by kernel_rfl
theorem acs:aj aR 36=true:=by kernel_rfl
theorem Z3:aj aR 38=true:=by kernel_rfl
theorem acr:aj aR 46=true:=by kernel_rfl
theorem acq:aj aR 47=true:=by kernel_rfl
theorem acp:aj aR 48=true:=by kernel_rfl
theorem YC:aj aR 50=true:=by kernel_rfl
theorem aco:aj aR 51=true:=by kernel_rfl
theorem acn:aj aR 52=true:=by kernel_rfl
theorem acm:aj aR 53=true:=by kernel_rfl
theorem acl:aj aR 54=true:=by kernel_rfl
theorem ack:aj aR 55=true:=by kernel_rfl
theorem acj:aj aR 56=true:=by kernel_rfl
theorem aci:aj aR 57=true:=by kernel_rfl
theorem ach:aj aR 58=true:=by kernel_rfl
theorem acg:aj aR 59=true:=by kernel_rfl
theorem acf:aj aR 60=true:=by kernel_rfl
theorem ace:aj aR 61=true:=by kernel_rfl
theorem YB:aj aR 72=true:=by kernel_rfl
theorem Sd:aj aR 73=true:=by kernel_rfl
theorem YA:aj aR 75=true:=by kernel_rfl
theorem acd:aj aR 76=true:=by kernel_rfl
theorem acc:aj aR 86=true:=by kernel_rfl
theorem Z1:aj aR 88=true:=by kernel_rfl
theorem acb:aj aR 89=true:=by kernel_rfl
theorem Z0:aj aR 90=true:=by kernel_rfl
theorem ZZ:aj aR 91=true:=by kernel_rfl
theorem aca:aj aR 92=true:=by kernel_rfl
theorem Yz:aj aR 93=true:=by kernel_rfl
theorem Yy:aj aR 94=true:=by kernel_rfl
theorem VD:aj aR 95=true:=by kernel_rfl
theorem Yx:aj aR 97=true:=by kernel_rfl
theorem ab9:aj aR 98=true:=by kernel_rfl
theorem WH:aj aR 101=true:=by kernel_rfl
theorem abG:aj aR 102=true:=by kernel_rfl
theorem WG:aj aR 103=true:=by kernel_rfl
theorem WF:aj aR 104=true:=by kernel_rfl
theorem abF:aj aR 105=true:=by kernel_rfl
theorem Su:aj aR 106=true:=by kernel_rfl
theorem Sr:aj aR 107=true:=by kernel_rfl
theorem abE:aj aR 108=true:=by kernel_rfl
theorem WE:aj aR 109=true:=by kernel_rfl
theorem abD:aj aR 110=true:=by kernel_rfl
theorem KY:aj aR 111=true:=by kernel_rfl
theorem abC:aj aR 123=true:=by kernel_rfl
theorem abB:aj aR 126=true:=by kernel_rfl
theorem abA:aj aR 129=true:=by kernel_rfl
theorem KX:aj aR 130=true:=by kernel_rfl
theorem abz:aj aR 131=true:=by kernel_rfl
theorem aby:aj aR 132=true:=by kernel_rfl
theorem abx:aj aR 133=true:=by kernel_rfl
theorem abw:aj aR 134=true:=by kernel_rfl
theorem abv:aj aR 135=true:=by kernel_rfl
theorem Sq:aj aR 136=true:=by kernel_rfl
theorem abu:aj aR 137=true:=by kernel_rfl
theorem abt:aj aR 149=true:=by kernel_rfl
theorem Sp:aj aR 152=true:=by kernel_rfl
theorem WD:aj aR 153=true:=by kernel_rfl
theorem abs:aj aR 154=true:=by kernel_rfl
theorem abr:aj aR 157=true:=by kernel_rfl
theorem abq:aj aR 158=true:=by kernel_rfl
theorem abp:aj aR 159=true:=by kernel_rfl
theorem abo:aj aR 160=true:=by kernel_rfl
theorem abn:aj aR 161=true:=by kernel_rfl
theorem abm:aj aR 162=true:=by kernel_rfl
theorem abl:aj aR 170=true:=by kernel_rfl
theorem abk:aj aR 171=true:=by kernel_rfl
theorem abj:aj aR 172=true:=by kernel_rfl
theorem abi:aj aR 173=true:=by kernel_rfl
theorem WC:aj aR 174=true:=by kernel_rfl
theorem abh:aj aR 175=true:=by kernel_rfl
theorem So:aj aR 176=true:=by kernel_rfl
theorem KW:aj aR 177=true:=by kernel_rfl
theorem abg:aj aR 178=true:=by kernel_rfl
theorem abf:aj aR 179=true:=by kernel_rfl
theorem abe:aj aR 180=true:=by kernel_rfl
theorem WB:aj aR 181=true:=by kernel_rfl
theorem OO:aj aR 182=true:=by kernel_rfl
theorem abd:aj aR 183=true:=by kernel_rfl
theorem abc:aj aR 184=true:=by kernel_rfl
theorem abb:aj aR 185=true:=by kernel_rfl
theorem aba:aj aR 186=true:=by kernel_rfl
theorem aa9:aj aR 187=true:=by kernel_rfl
theorem Sn:aj aR 188=true:=by kernel_rfl
theorem aa8:aj aR 189=true:=by kernel_rfl
theorem aa7:aj aR 190=true:=by kernel_rfl
theorem aa6:aj aR 191=true:=by kernel_rfl
theorem aa5:aj aR 201=true:=by kernel_rfl
theorem aa4:aj aR 202=true:=by kernel_rfl
theorem aa3:aj aR 203=true:=by kernel_rfl
theorem aa2:aj aR 204=true:=by kernel_rfl
theorem aa1:aj aR 205=true:=by kernel_rfl
theorem aa0:aj aR 206=true:=by kernel_rfl
theorem aaZ:aj aR 207=true:=by kernel_rfl
theorem aaY:aj aR 208=true:=by kernel_rfl
theorem aaX:aj aR 209=true:=by kernel_rfl
theorem aaW:aj aR 210=true:=by kernel_rfl
theorem aaV:aj aR 211=true:=by kernel_rfl
theorem aaU:aj aR 212=true:=by kernel_rfl
theorem ON:aj aR 213=true:=by kernel_rfl
theorem aaT:aj aR 214=true:=by kernel_rfl
theorem aaS:aj aR 215=true:=by kernel_rfl
theorem Sm:aj aR 216=true:=by kernel_rfl
theorem aaR:aj aR 217=true:=by kernel_rfl
theorem aaQ:aj aR 218=true:=by kernel_rfl
theorem aaP:aj aR 229=true:=by kernel_rfl
theorem aaO:aj aR 242=true:=by kernel_rfl
theorem WA:aj aR 243=true:=by kernel_rfl
theorem aaN:aj aR 244=true:=by kernel_rfl
theorem aaM:aj aR 245=true:=by kernel_rfl
theorem Sl:aj aR 256=true:=by kernel_rfl
theorem aaL:aj aR 257=true:=by kernel_rfl
theorem OM:aj aR 258=true:=by kernel_rfl
theorem aaK:aj aR 259=true:=by kernel_rfl
theorem aaJ:aj aR 260=true:=by kernel_rfl
theorem aaI:aj aR 261=true:=by kernel_rfl
theorem Sk:aj aR 262=true:=by kernel_rfl
theorem Wz:aj aR 263=true:=by kernel_rfl
theorem aaH:aj aR 264=true:=by kernel_rfl
theorem Wy:aj aR 265=true:=by kernel_rfl
theorem Wx:aj aR 266=true:=by kernel_rfl
theorem aaG:aj aR 267=true:=by kernel_rfl
theorem Ww:aj aR 268=true:=by kernel_rfl
theorem aaF:aj aR 269=true:=by kernel_rfl
theorem aaE:aj aR 270=true:=by kernel_rfl
theorem Wv:aj aR 271=true:=by kernel_rfl
theorem Sj:aj aR 272=true:=by kernel_rfl
theorem aaD:aj aR 273=true:=by kernel_rfl
theorem aaC:aj aR 274=true:=by kernel_rfl
theorem Wu:aj aR 275=true:=by kernel_rfl
theorem aaB:aj aR 276=true:=by kernel_rfl
theorem aaA:aj aR 279=true:=by kernel_rfl
theorem aaz:aj aR 280=true:=by kernel_rfl
theorem aay:aj aR 281=true:=by kernel_rfl
theorem Wt:aj aR 282=true:=by kernel_rfl
theorem aax:aj aR 283=true:=by kernel_rfl
theorem aaw:aj aR 284=true:=by kernel_rfl
theorem Si:aj aR 285=true:=by kernel_rfl
theorem aav:aj aR 286=true:=by kernel_rfl
theorem aau:aj aR 287=true:=by kernel_rfl
theorem OL:aj aR 288=true:=by kernel_rfl
theorem Sh:aj aR 289=true:=by kernel_rfl
theorem aat:aj aR 290=true:=by kernel_rfl
theorem Ws:aj aR 310=true:=by kernel_rfl
theorem Wr:aj aR 311=true:=by kernel_rfl
theorem Wq:aj aR 312=true:=by kernel_rfl
theorem aar:aj aR 321=true:=by kernel_rfl
theorem aaq:aj aR 322=true:=by kernel_rfl
theorem aap:aj aR 323=true:=by kernel_rfl
theorem Wp:aj aR 324=true:=by kernel_rfl
theorem aao:aj aR 325=true:=by kernel_rfl
theorem aan:aj aR 326=true:=by kernel_rfl
theorem Sf:aj aR 327=true:=by kernel_rfl
theorem aam:aj aR 328=true:=by kernel_rfl
theorem aal:aj aR 329=true:=by kernel_rfl
theorem OK:aj aR 330=true:=by kernel_rfl
theorem aak:aj aR 331=true:=by kernel_rfl
theorem aaj:aj aR 332=true:=by kernel_rfl
theorem aai:aj aR 333=true:=by kernel_rfl
theorem aah:aj aR 334=true:=by kernel_rfl
theorem OJ:aj aR 335=true:=by kernel_rfl
theorem Wo:aj aR 336=true:=by kernel_rfl
theorem aag:aj aR 337=true:=by kernel_rfl
theorem aaf:aj aR 338=true:=by kernel_rfl
theorem aae:aj aR 339=true:=by kernel_rfl
theorem aad:aj aR 340=true:=by kernel_rfl
theorem aac:aj aR 341=true:=by kernel_rfl
theorem aab:aj aR 343=true:=by kernel_rfl
theorem aaa:aj aR 344=true:=by kernel_rfl
theorem Z9:aj aR 345=true:=by kernel_rfl
theorem Z8:aj aR 346=true:=by kernel_rfl
theorem Wn:aj aR 363=true:=by kernel_rfl
theorem Z7:aj aR 364=true:=by kernel_rfl
theorem Z6:aj aR 365=true:=by kernel_rfl
theorem Z5:aj aR 366=true:=by kernel_rfl
theorem Z4:aj aR 376=true:=by kernel_rfl
theorem Z2:aj aR 382=true:=by kernel_rfl
theorem zv4:ZV aR 4 (.bool false):=(show(Tryz.prog.info? 4).bind (fun i=>i.zero)=some (.bool false) by kernel_rfl)
theorem abM:ZV aR 97 (.nilFunc):=(show(Tryz.prog.info? 97).bind (fun i=>i.zero)=some (.nilFunc) by kernel_rfl)
theorem YR:ZV aR 222 (.nilFunc):=(show(Tryz.prog.info? 222).bind (fun i=>i.zero)=some (.nilFunc) by kernel_rfl)
theorem YQ:ZV aR 238 (.nilFunc):=(show(Tryz.prog.info? 238).bind (fun i=>i.zero)=some (.nilFunc) by kernel_rfl)
theorem ZR:rk aR 46 af 2:=MQ (n:=1) (fs:=[(3,0,false),(2,1,false),(44,2,false),(9,3,false)]) (by kernel_rfl) (by kernel_rfl) rfl (SO.cons cu rfl rfl cS (vo (Dt (n:=0) kC) 0) (SO.cons FO rfl rfl fk (vo (Dt (n:=0) Ab) 0) (SO.cons LL rfl rfl qu (vo (Dt (n:=0) Ad) 0) (SO.cons Tc rfl rfl nQ (vo (Vw (n:=0) Cr) 0) SO.nil)))) (fun x y=>by cases x;cases y;simp [Bool.decide_and])
theorem PN:WM aR 46 af:=WM.of (by kernel_rfl) (vo ZR 18)
theorem ZS:WM aR 243 (uy (rI .i64) 2):=WM.of (by kernel_rfl) (vo (Vx (n:=1) Tryz.underlying243 cu rfl rfl (Dt (n:=0) kC)) 18)

end Go.Proofs.YtfhhakidodmdfaaGreatDoor

