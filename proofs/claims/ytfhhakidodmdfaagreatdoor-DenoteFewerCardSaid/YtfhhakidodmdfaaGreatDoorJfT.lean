/- cU of this claim: T. -/
import Derived.Test.YtfhhakidodmdfaaGreatDoorJfD
import Derived.Test.YtfhhakidodmdfaaGreatDoorProg
import Derived.Test.YtfhhakidodmdfaaGreatDoorJfS
import Derived.Test.YtfhhakidodmdfaaGreatDoorJfV4
import Derived.KernelRfl
set_option linter.all false
namespace Go.Proofs.YtfhhakidodmdfaaGreatDoor
open Go
noncomputable abbrev aQ:=Tryz.prog
def hX:= @Tryz.underlying39
def i9:= @Tryz.underlying32
def jf:= @Tryz.underlying43
def kC:= @Tryz.underlying42
def lk:= @Tryz.underlying3
def o3:= @Tryz.underlying25
def p6:= @Tryz.underlying22
def wm:= @Tryz.underlying113
def xw:= @Tryz.underlying47
def xv:= @Tryz.underlying68
def xI:= @Tryz.underlying219
def xH:= @Tryz.underlying69
def A4:= @Tryz.underlying44
def A1:= @Tryz.underlying2
def DL:= @Tryz.underlying57
def Ba:= @Tryz.underlying239
def Db:= @Tryz.underlying9
def A8:= @Tryz.underlying98
def OB:= @Tryz.underlying4
def G7:= @Tryz.underlying150

theorem mixed:Tryz.prog.follows .mixedOrders=true:=by kernel_rfl
theorem Gx:TI aQ 2 1 8 false [.int .i64 0]:=⟨by kernel_rfl,by kernel_rfl⟩
theorem cr:TI aQ 3 1 8 false [.int .i64 0]:=⟨by kernel_rfl,by kernel_rfl⟩
theorem Km:TI aQ 4 1 1 false [.bool false]:=⟨by kernel_rfl,by kernel_rfl⟩
theorem Um:TI aQ 9 1 16 false [.string ⟨#[]⟩]:=⟨by kernel_rfl,by kernel_rfl⟩
theorem tH:TI aQ 22 1 24 false [.slice none 0 0]:=⟨by kernel_rfl,by kernel_rfl⟩
theorem hY:TI aQ 24 1 24 true [.slice none 0 0]:=⟨by kernel_rfl,by kernel_rfl⟩
theorem vB:TI aQ 25 1 24 false [.slice none 0 0]:=⟨by kernel_rfl,by kernel_rfl⟩
theorem DV:TI aQ 27 1 24 true [.slice none 0 0]:=⟨by kernel_rfl,by kernel_rfl⟩
theorem gU:TI aQ 32 1 24 false [.slice none 0 0]:=⟨by kernel_rfl,by kernel_rfl⟩
theorem ML:TI aQ 33 1 8 false [.int .i64 0]:=⟨by kernel_rfl,by kernel_rfl⟩
theorem ea:TI aQ 39 1 24 false [.slice none 0 0]:=⟨by kernel_rfl,by kernel_rfl⟩
theorem Ir:TI aQ 42 1 24 false [.slice none 0 0]:=⟨by kernel_rfl,by kernel_rfl⟩
theorem dy:TI aQ 43 1 24 false [.slice none 0 0]:=⟨by kernel_rfl,by kernel_rfl⟩
theorem MK:TI aQ 44 1 8 false [.int .u64 0]:=⟨by kernel_rfl,by kernel_rfl⟩
theorem aI:TI aQ 46 4 40 true [.int .i64 0,.int .i64 0,.int .u64 0,.string ⟨#[]⟩]:=⟨by kernel_rfl,by kernel_rfl⟩
theorem Bf:TI aQ 47 1 24 false [.slice none 0 0]:=⟨by kernel_rfl,by kernel_rfl⟩
theorem kQ:TI aQ 49 1 24 true [.slice none 0 0]:=⟨by kernel_rfl,by kernel_rfl⟩
theorem uE:TI aQ 51 2 32 true [.int .i64 0,.slice none 0 0]:=⟨by kernel_rfl,by kernel_rfl⟩
theorem DU:TI aQ 57 1 24 false [.slice none 0 0]:=⟨by kernel_rfl,by kernel_rfl⟩
theorem Kl:TI aQ 60 2 16 true [.int .i64 0,.bool false]:=⟨by kernel_rfl,by kernel_rfl⟩
theorem Cl:TI aQ 68 1 24 false [.slice none 0 0]:=⟨by kernel_rfl,by kernel_rfl⟩
theorem Be:TI aQ 69 1 24 false [.slice none 0 0]:=⟨by kernel_rfl,by kernel_rfl⟩
theorem fL:TI aQ 71 12 192 true [.int .i64 0,.int .i64 0,.int .i64 0,.int .i64 0,.slice none 0 0,.bool false,.slice none 0 0,.slice none 0 0,.slice none 0 0,.slice none 0 0,.slice none 0 0,.int .i64 0]:=⟨by kernel_rfl,by kernel_rfl⟩
theorem p8:TI aQ 80 8 72 true [.int .i64 0,.int .i64 0,.int .i64 0,.int .i64 0,.int .i64 0,.int .i64 0,.int .u64 0,.string ⟨#[]⟩]:=⟨by kernel_rfl,by kernel_rfl⟩
theorem acS:TI aQ 96 3 72 true [.slice none 0 0,.slice none 0 0,.slice none 0 0]:=⟨by kernel_rfl,by kernel_rfl⟩
theorem lc:TI aQ 109 1 8 false [.pointer none]:=⟨by kernel_rfl,by kernel_rfl⟩
theorem tI:TI aQ 113 1 24 false [.slice none 0 0]:=⟨by kernel_rfl,by kernel_rfl⟩
theorem aag:TI aQ 115 3 72 true [.slice none 0 0,.slice none 0 0,.slice none 0 0]:=⟨by kernel_rfl,by kernel_rfl⟩
theorem aaf:TI aQ 123 1 8 false [.nilFunc]:=⟨by kernel_rfl,by kernel_rfl⟩
theorem aae:TI aQ 131 1 8 false [.nilFunc]:=⟨by kernel_rfl,by kernel_rfl⟩
theorem OD:TI aQ 143 1 24 false [.slice none 0 0]:=⟨by kernel_rfl,by kernel_rfl⟩
theorem OC:TI aQ 150 1 24 false [.slice none 0 0]:=⟨by kernel_rfl,by kernel_rfl⟩
theorem Bg:TI aQ 154 2 48 true [.slice none 0 0,.slice none 0 0]:=⟨by kernel_rfl,by kernel_rfl⟩
theorem RE:TI aQ 219 1 8 false [.map none]:=⟨by kernel_rfl,by kernel_rfl⟩
theorem Xh:TI aQ 222 1 8 false [.nilFunc]:=⟨by kernel_rfl,by kernel_rfl⟩
theorem Kn:TI aQ 243 2 16 true (List.replicate 2 (.int .i64 0)):=⟨by kernel_rfl,by kernel_rfl⟩
theorem kW:cV aQ 24 0=some (0,1):=by kernel_rfl
theorem AH:cV aQ 27 0=some (0,1):=by kernel_rfl
theorem iu:cV aQ 46 0=some (0,1):=by kernel_rfl
theorem ml:cV aQ 46 1=some (1,1):=by kernel_rfl
theorem CI:cV aQ 46 2=some (2,1):=by kernel_rfl
theorem yC:cV aQ 46 3=some (3,1):=by kernel_rfl
theorem qx:cV aQ 49 0=some (0,1):=by kernel_rfl
theorem AG:cV aQ 51 0=some (0,1):=by kernel_rfl
theorem CH:cV aQ 51 1=some (1,1):=by kernel_rfl
theorem CF:cV aQ 60 0=some (0,1):=by kernel_rfl
theorem YW:cV aQ 60 1=some (1,1):=by kernel_rfl
theorem yB:cV aQ 71 0=some (0,1):=by kernel_rfl
theorem jH:cV aQ 71 1=some (1,1):=by kernel_rfl
theorem qv:cV aQ 71 2=some (2,1):=by kernel_rfl
theorem vj:cV aQ 71 3=some (3,1):=by kernel_rfl
theorem vi:cV aQ 71 4=some (4,1):=by kernel_rfl
theorem NR:cV aQ 71 5=some (5,1):=by kernel_rfl
theorem sE:cV aQ 71 6=some (6,1):=by kernel_rfl
theorem uh:cV aQ 71 7=some (7,1):=by kernel_rfl
theorem rl:cV aQ 71 8=some (8,1):=by kernel_rfl
theorem rk:cV aQ 71 9=some (9,1):=by kernel_rfl
theorem qw:cV aQ 71 10=some (10,1):=by kernel_rfl
theorem uV:cV aQ 71 11=some (11,1):=by kernel_rfl
theorem qu:cV aQ 80 0=some (0,1):=by kernel_rfl
theorem YV:cV aQ 80 1=some (1,1):=by kernel_rfl
theorem YU:cV aQ 80 2=some (2,1):=by kernel_rfl
theorem AF:cV aQ 80 3=some (3,1):=by kernel_rfl
theorem CE:cV aQ 80 4=some (4,4):=by kernel_rfl
theorem YT:cV aQ 96 0=some (0,1):=by kernel_rfl
theorem rj:cV aQ 96 1=some (1,1):=by kernel_rfl
theorem NQ:cV aQ 96 2=some (2,1):=by kernel_rfl
theorem Jc:cV aQ 115 0=some (0,1):=by kernel_rfl
theorem n8:cV aQ 115 1=some (1,1):=by kernel_rfl
theorem uW:cV aQ 115 2=some (2,1):=by kernel_rfl
theorem Vb:cV aQ 154 0=some (0,1):=by kernel_rfl
theorem Va:cV aQ 154 1=some (1,1):=by kernel_rfl
theorem SE:nw aQ 24=some [(0,1)]:=by kernel_rfl
theorem ac3:nw aQ 27=some [(0,1)]:=by kernel_rfl
theorem qO:nw aQ 46=some [(0,1),(1,1),(2,1),(3,1)]:=by kernel_rfl
theorem YR:nw aQ 49=some [(0,1)]:=by kernel_rfl
theorem aaD:nw aQ 51=some [(0,1),(1,1)]:=by kernel_rfl
theorem SD:nw aQ 71=some [(0,1),(1,1),(2,1),(3,1),(4,1),(5,1),(6,1),(7,1),(8,1),(9,1),(10,1),(11,1)]:=by kernel_rfl
theorem ac2:nw aQ 80=some [(0,1),(1,1),(2,1),(3,1),(4,4)]:=by kernel_rfl
theorem ac1:nw aQ 96=some [(0,1),(1,1),(2,1)]:=by kernel_rfl
theorem aaE:nw aQ 115=some [(0,1),(1,1),(2,1)]:=by kernel_rfl
theorem Xw:nw aQ 154=some [(0,1),(1,1)]:=by kernel_rfl
theorem adG:ak aQ 11=true:=by kernel_rfl
theorem adF:ak aQ 12=true:=by kernel_rfl
theorem adE:ak aQ 13=true:=by kernel_rfl
theorem Tv:ak aQ 15=true:=by kernel_rfl
theorem adD:ak aQ 16=true:=by kernel_rfl
theorem adC:ak aQ 23=true:=by kernel_rfl
theorem adB:ak aQ 24=true:=by kernel_rfl
theorem WL:ak aQ 25=true:=by kernel_rfl
theorem adA:ak aQ 33=true:=by kernel_rfl
theorem adz:ak aQ 37=true:=by kernel_rfl
theorem ZH:ak aQ 38=true:=by kernel_rfl
theorem ZG:ak aQ 39=true:=by kernel_rfl
theorem ady:ak aQ 46=true:=by kernel_rfl
theorem adx:ak aQ 47=true:=by kernel_rfl
theorem adw:ak aQ 48=true:=by kernel_rfl
theorem WK:ak aQ 50=true:=by kernel_rfl
theorem adv:ak aQ 51=true:=by kernel_rfl
theorem adu:ak aQ 52=true:=by kernel_rfl
theorem adt:ak aQ 53=true:=by kernel_rfl
theorem ads:ak aQ 54=true:=by kernel_rfl
theorem adr:ak aQ 55=true:=by kernel_rfl
theorem adq:ak aQ 56=true:=by kernel_rfl
theorem adp:ak aQ 57=true:=by kernel_rfl
theorem ado:ak aQ 58=true:=by kernel_rfl
theorem adn:ak aQ 59=true:=by kernel_rfl
theorem adm:ak aQ 60=true:=by kernel_rfl
theorem adl:ak aQ 61=true:=by kernel_rfl
theorem ZF:ak aQ 72=true:=by kernel_rfl
theorem Ti:ak aQ 73=true:=by kernel_rfl
theorem adk:ak aQ 74=true:=by kernel_rfl
theorem ZE:ak aQ 75=true:=by kernel_rfl
theorem adj:ak aQ 76=true:=by kernel_rfl
theorem aa2:ak aQ 84=true:=by kernel_rfl
theorem adi:ak aQ 85=true:=by kernel_rfl
theorem adh:ak aQ 86=true:=by kernel_rfl
theorem ZD:ak aQ 88=true:=by kernel_rfl
theorem aa1:ak aQ 89=true:=by kernel_rfl
theorem adg:ak aQ 90=true:=by kernel_rfl
theorem adf:ak aQ 91=true:=by kernel_rfl
theorem aa0:ak aQ 93=true:=by kernel_rfl
theorem WJ:ak aQ 94=true:=by kernel_rfl
theorem WI:ak aQ 95=true:=by kernel_rfl
theorem ade:ak aQ 96=true:=by kernel_rfl
theorem ZC:ak aQ 97=true:=by kernel_rfl
theorem adc:ak aQ 98=true:=by kernel_rfl
theorem XY:ak aQ 101=true:=by kernel_rfl
theorem acH:ak aQ 102=true:=by kernel_rfl
theorem XX:ak aQ 103=true:=by kernel_rfl
theorem XW:ak aQ 104=true:=by kernel_rfl
theorem acG:ak aQ 105=true:=by kernel_rfl
theorem TA:ak aQ 106=true:=by kernel_rfl
theorem Tz:ak aQ 107=true:=by kernel_rfl
theorem acF:ak aQ 108=true:=by kernel_rfl
theorem XV:ak aQ 109=true:=by kernel_rfl
theorem Tx:ak aQ 110=true:=by kernel_rfl
theorem LZ:ak aQ 111=true:=by kernel_rfl
theorem acE:ak aQ 123=true:=by kernel_rfl
theorem acD:ak aQ 126=true:=by kernel_rfl
theorem acC:ak aQ 127=true:=by kernel_rfl
theorem acB:ak aQ 128=true:=by kernel_rfl
theorem acA:ak aQ 129=true:=by kernel_rfl
theorem LY:ak aQ 130=true:=by kernel_rfl
theorem acz:ak aQ 131=true:=by kernel_rfl
theorem acy:ak aQ 132=true:=by kernel_rfl
theorem acx:ak aQ 133=true:=by kernel_rfl
theorem acw:ak aQ 134=true:=by kernel_rfl
theorem acv:ak aQ 135=true:=by kernel_rfl
theorem Tw:ak aQ 136=true:=by kernel_rfl
theorem acu:ak aQ 137=true:=by kernel_rfl
theorem XU:ak aQ 149=true:=by kernel_rfl
theorem act:ak aQ 150=true:=by kernel_rfl
theorem acs:ak aQ 151=true:=by kernel_rfl
theorem Tt:ak aQ 152=true:=by kernel_rfl
theorem XT:ak aQ 153=true:=by kernel_rfl
theorem acr:ak aQ 154=true:=by kernel_rfl
theorem acq:ak aQ 157=true:=by kernel_rfl
theorem acp:ak aQ 158=true:=by kernel_rfl
theorem aco:ak aQ 159=true:=by kernel_rfl
theorem acn:ak aQ 160=true:=by kernel_rfl
theorem acm:ak aQ 161=true:=by kernel_rfl
theorem acl:ak aQ 162=true:=by kernel_rfl
theorem ack:ak aQ 170=true:=by kernel_rfl
theorem acj:ak aQ 171=true:=by kernel_rfl
theorem aci:ak aQ 172=true:=by kernel_rfl
theorem ach:ak aQ 173=true:=by kernel_rfl
theorem XR:ak aQ 174=true:=by kernel_rfl
theorem acg:ak aQ 175=true:=by kernel_rfl
theorem Ts:ak aQ 176=true:=by kernel_rfl
theorem LX:ak aQ 177=true:=by kernel_rfl
theorem acf:ak aQ 178=true:=by kernel_rfl
theorem ace:ak aQ 179=true:=by kernel_rfl
theorem acd:ak aQ 180=true:=by kernel_rfl
theorem XQ:ak aQ 181=true:=by kernel_rfl
theorem PM:ak aQ 182=true:=by kernel_rfl
theorem acc:ak aQ 183=true:=by kernel_rfl
theorem acb:ak aQ 184=true:=by kernel_rfl
theorem aca:ak aQ 185=true:=by kernel_rfl
theorem ab9:ak aQ 186=true:=by kernel_rfl
theorem ab8:ak aQ 187=true:=by kernel_rfl
theorem Tq:ak aQ 188=true:=by kernel_rfl
theorem ab7:ak aQ 189=true:=by kernel_rfl
theorem ab6:ak aQ 190=true:=by kernel_rfl
theorem ab5:ak aQ 191=true:=by kernel_rfl
theorem ab4:ak aQ 201=true:=by kernel_rfl
theorem ab3:ak aQ 202=true:=by kernel_rfl
theorem ab2:ak aQ 203=true:=by kernel_rfl
theorem ab1:ak aQ 204=true:=by kernel_rfl
theorem ab0:ak aQ 205=true:=by kernel_rfl
theorem abZ:ak aQ 206=true:=by kernel_rfl
theorem abY:ak aQ 207=true:=by kernel_rfl
theorem abX:ak aQ 208=true:=by kernel_rfl
theorem abW:ak aQ 209=true:=by kernel_rfl
theorem abV:ak aQ 210=true:=by kernel_rfl
theorem abU:ak aQ 211=true:=by kernel_rfl
theorem abT:ak aQ 212=true:=by kernel_rfl
theorem PL:ak aQ 213=true:=by kernel_rfl
theorem abS:ak aQ 214=true:=by kernel_rfl
theorem abR:ak aQ 215=true:=by kernel_rfl
theorem Tp:ak aQ 216=true:=by kernel_rfl
theorem abQ:ak aQ 217=true:=by kernel_rfl
theorem abP:ak aQ 218=true:=by kernel_rfl
theorem abO:ak aQ 229=true:=by kernel_rfl
theorem abN:ak aQ 242=true:=by kernel_rfl
theorem XP:ak aQ 243=true:=by kernel_rfl
theorem abM:ak aQ 244=true:=by kernel_rfl
theorem abL:ak aQ 245=true:=by kernel_rfl
theorem To:ak aQ 256=true:=by kernel_rfl
theorem abK:ak aQ 257=true:=by kernel_rfl
theorem PK:ak aQ 258=true:=by kernel_rfl
theorem abJ:ak aQ 259=true:=by kernel_rfl
theorem abI:ak aQ 260=true:=by kernel_rfl
theorem abH:ak aQ 261=true:=by kernel_rfl
theorem Tn:ak aQ 262=true:=by kernel_rfl
theorem XO:ak aQ 263=true:=by kernel_rfl
theorem abG:ak aQ 264=true:=by kernel_rfl
theorem XN:ak aQ 265=true:=by kernel_rfl
theorem XM:ak aQ 266=true:=by kernel_rfl
theorem abF:ak aQ 267=true:=by kernel_rfl
theorem XL:ak aQ 268=true:=by kernel_rfl
theorem abE:ak aQ 269=true:=by kernel_rfl
theorem abD:ak aQ 270=true:=by kernel_rfl
theorem XK:ak aQ 271=true:=by kernel_rfl
theorem Tm:ak aQ 272=true:=by kernel_rfl
theorem abC:ak aQ 273=true:=by kernel_rfl
theorem abB:ak aQ 274=true:=by kernel_rfl
theorem XJ:ak aQ 275=true:=by kernel_rfl
theorem abA:ak aQ 276=true:=by kernel_rfl
theorem abz:ak aQ 279=true:=by kernel_rfl
theorem aby:ak aQ 280=true:=by kernel_rfl
theorem abx:ak aQ 281=true:=by kernel_rfl
theorem XI:ak aQ 282=true:=by kernel_rfl
theorem abw:ak aQ 283=true:=by kernel_rfl
theorem abv:ak aQ 284=true:=by kernel_rfl
theorem Tl:ak aQ 285=true:=by kernel_rfl
theorem abu:ak aQ 286=true:=by kernel_rfl
theorem abt:ak aQ 287=true:=by kernel_rfl
theorem PJ:ak aQ 288=true:=by kernel_rfl
theorem Tk:ak aQ 289=true:=by kernel_rfl
theorem abs:ak aQ 290=true:=by kernel_rfl
theorem XH:ak aQ 310=true:=by kernel_rfl
theorem XG:ak aQ 311=true:=by kernel_rfl
theorem XF:ak aQ 312=true:=by kernel_rfl
theorem abr:ak aQ 321=true:=by kernel_rfl
theorem abq:ak aQ 322=true:=by kernel_rfl
theorem abp:ak aQ 323=true:=by kernel_rfl
theorem XE:ak aQ 324=true:=by kernel_rfl
theorem abo:ak aQ 325=true:=by kernel_rfl
theorem abn:ak aQ 326=true:=by kernel_rfl
theorem Tj:ak aQ 327=true:=by kernel_rfl
theorem abm:ak aQ 328=true:=by kernel_rfl
theorem abl:ak aQ 329=true:=by kernel_rfl
theorem PI:ak aQ 330=true:=by kernel_rfl
theorem abk:ak aQ 331=true:=by kernel_rfl
theorem abj:ak aQ 332=true:=by kernel_rfl
theorem abi:ak aQ 333=true:=by kernel_rfl
theorem abh:ak aQ 334=true:=by kernel_rfl
theorem PH:ak aQ 335=true:=by kernel_rfl
theorem XD:ak aQ 336=true:=by kernel_rfl
theorem abg:ak aQ 337=true:=by kernel_rfl
theorem abf:ak aQ 338=true:=by kernel_rfl
theorem abe:ak aQ 339=true:=by kernel_rfl
theorem abd:ak aQ 340=true:=by kernel_rfl
theorem abc:ak aQ 341=true:=by kernel_rfl
theorem abb:ak aQ 343=true:=by kernel_rfl
theorem aba:ak aQ 344=true:=by kernel_rfl
theorem aa9:ak aQ 345=true:=by kernel_rfl
theorem aa8:ak aQ 346=true:=by kernel_rfl
theorem XC:ak aQ 363=true:=by kernel_rfl
theorem aa7:ak aQ 364=true:=by kernel_rfl
theorem aa6:ak aQ 365=true:=by kernel_rfl
theorem aa5:ak aQ 366=true:=by kernel_rfl
theorem aa4:ak aQ 376=true:=by kernel_rfl
theorem aa3:ak aQ 382=true:=by kernel_rfl
theorem acO:ZV aQ 97 (.nilFunc):=(show(Tryz.prog.info? 97).bind (fun i=>i.zero)=some (.nilFunc) by kernel_rfl)
theorem ZU:ZV aQ 222 (.nilFunc):=(show(Tryz.prog.info? 222).bind (fun i=>i.zero)=some (.nilFunc) by kernel_rfl)
theorem ZT:ZV aQ 238 (.nilFunc):=(show(Tryz.prog.info? 238).bind (fun i=>i.zero)=some (.nilFunc) by kernel_rfl)
theorem aaQ:sq aQ 46 af 2:=N1 (n:=1) (fs:=[(3,0,false),(2,1,false),(44,2,false),(9,3,false)]) (by kernel_rfl) (by kernel_rfl) rfl (TX.cons cr rfl rfl cS (wh (Em (n:=0) lk) 0) (TX.cons Gx rfl rfl fI (wh (Em (n:=0) A1) 0) (TX.cons MK rfl rfl rf (wh (Em (n:=0) A4) 0) (TX.cons Um rfl rfl oA (wh (WA (n:=0) Db) 0) TX.nil)))) (fun x y=>by cases x;cases y;simp [Bool.decide_and])
theorem QS:X2 aQ 46 af:=X2.of (by kernel_rfl) (wh aaQ 18)
theorem aaR:X2 aQ 243 (vg (rI .i64) 2):=X2.of (by kernel_rfl) (wh (WB (n:=1) Tryz.underlying243 cr rfl rfl (Em (n:=0) lk)) 18)

end Go.Proofs.YtfhhakidodmdfaaGreatDoor

