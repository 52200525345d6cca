/- da of this claim: T. -/
import Derived.Test.YtfhhakidodmdfaaGreatDoorJdD
import Derived.Test.YtfhhakidodmdfaaGreatDoorProg
import Derived.Test.YtfhhakidodmdfaaGreatDoorJdS
import Derived.Test.YtfhhakidodmdfaaGreatDoorJdV4
import Derived.KernelRfl
set_option linter.all false
namespace Go.Proofs.YtfhhakidodmdfaaGreatDoor
open Go
noncomputable abbrev aO:=Tryz.prog
def gR:= @Tryz.underlying32
def g9:= @Tryz.underlying39
def gc:= @Tryz.underlying43
def j3:= @Tryz.underlying42
def kM:= @Tryz.underlying3
def p8:= @Tryz.underlying25
def uC:= @Tryz.underlying57
def vo:= @Tryz.underlying113
def wD:= @Tryz.underlying219
def Aa:= @Tryz.underlying44
def z8:= @Tryz.underlying47
def z7:= @Tryz.underlying22
def z6:= @Tryz.underlying68
def zZ:= @Tryz.underlying2
def Bn:= @Tryz.underlying69
def Ah:= @Tryz.underlying239
def Ci:= @Tryz.underlying9
def Af:= @Tryz.underlying98
def IR:= @Tryz.underlying4
def F6:= @Tryz.underlying150

theorem mixed:Tryz.prog.follows .mixedOrders=true:=by kernel_rfl
theorem Bl:TI aO 2 1 8 false [.int .i64 0]:=⟨by kernel_rfl,by kernel_rfl⟩
theorem cv:TI aO 3 1 8 false [.int .i64 0]:=⟨by kernel_rfl,by kernel_rfl⟩
theorem IF:TI aO 4 1 1 false [.bool false]:=⟨by kernel_rfl,by kernel_rfl⟩
theorem Le:TI aO 9 1 16 false [.string ⟨#[]⟩]:=⟨by kernel_rfl,by kernel_rfl⟩
theorem Fw:TI aO 22 1 24 false [.slice none 0 0]:=⟨by kernel_rfl,by kernel_rfl⟩
theorem qQ:TI aO 24 1 24 true [.slice none 0 0]:=⟨by kernel_rfl,by kernel_rfl⟩
theorem yw:TI aO 25 1 24 false [.slice none 0 0]:=⟨by kernel_rfl,by kernel_rfl⟩
theorem O6:TI aO 27 1 24 true [.slice none 0 0]:=⟨by kernel_rfl,by kernel_rfl⟩
theorem hJ:TI aO 32 1 24 false [.slice none 0 0]:=⟨by kernel_rfl,by kernel_rfl⟩
theorem Lt:TI aO 33 1 8 false [.int .i64 0]:=⟨by kernel_rfl,by kernel_rfl⟩
theorem eC:TI aO 39 1 24 false [.slice none 0 0]:=⟨by kernel_rfl,by kernel_rfl⟩
theorem Hm:TI aO 42 1 24 false [.slice none 0 0]:=⟨by kernel_rfl,by kernel_rfl⟩
theorem cO:TI aO 43 1 24 false [.slice none 0 0]:=⟨by kernel_rfl,by kernel_rfl⟩
theorem Al:TI aO 44 1 8 false [.int .u64 0]:=⟨by kernel_rfl,by kernel_rfl⟩
theorem aH:TI aO 46 4 40 true [.int .i64 0,.int .i64 0,.int .u64 0,.string ⟨#[]⟩]:=⟨by kernel_rfl,by kernel_rfl⟩
theorem CT:TI aO 47 1 24 false [.slice none 0 0]:=⟨by kernel_rfl,by kernel_rfl⟩
theorem mJ:TI aO 49 1 24 true [.slice none 0 0]:=⟨by kernel_rfl,by kernel_rfl⟩
theorem wu:TI aO 51 2 32 true [.int .i64 0,.slice none 0 0]:=⟨by kernel_rfl,by kernel_rfl⟩
theorem wt:TI aO 57 1 24 false [.slice none 0 0]:=⟨by kernel_rfl,by kernel_rfl⟩
theorem zg:TI aO 60 2 16 true [.int .i64 0,.bool false]:=⟨by kernel_rfl,by kernel_rfl⟩
theorem DL:TI aO 68 1 24 false [.slice none 0 0]:=⟨by kernel_rfl,by kernel_rfl⟩
theorem CS:TI aO 69 1 24 false [.slice none 0 0]:=⟨by kernel_rfl,by kernel_rfl⟩
theorem iQ:TI aO 71 12 192 true [.int .i64 0,.int .i64 0,.int .i64 0,.int .i64 0,.slice none 0 0,.bool false,.slice none 0 0,.slice none 0 0,.slice none 0 0,.slice none 0 0,.slice none 0 0,.int .i64 0]:=⟨by kernel_rfl,by kernel_rfl⟩
theorem qP:TI aO 80 8 72 true [.int .i64 0,.int .i64 0,.int .i64 0,.int .i64 0,.int .i64 0,.int .i64 0,.int .u64 0,.string ⟨#[]⟩]:=⟨by kernel_rfl,by kernel_rfl⟩
theorem abA:TI aO 96 3 72 true [.slice none 0 0,.slice none 0 0,.slice none 0 0]:=⟨by kernel_rfl,by kernel_rfl⟩
theorem kD:TI aO 109 1 8 false [.pointer none]:=⟨by kernel_rfl,by kernel_rfl⟩
theorem sD:TI aO 113 1 24 false [.slice none 0 0]:=⟨by kernel_rfl,by kernel_rfl⟩
theorem YM:TI aO 115 3 72 true [.slice none 0 0,.slice none 0 0,.slice none 0 0]:=⟨by kernel_rfl,by kernel_rfl⟩
theorem YL:TI aO 123 1 8 false [.nilFunc]:=⟨by kernel_rfl,by kernel_rfl⟩
theorem YK:TI aO 131 1 8 false [.nilFunc]:=⟨by kernel_rfl,by kernel_rfl⟩
theorem Nj:TI aO 143 1 24 false [.slice none 0 0]:=⟨by kernel_rfl,by kernel_rfl⟩
theorem Ni:TI aO 150 1 24 false [.slice none 0 0]:=⟨by kernel_rfl,by kernel_rfl⟩
theorem Am:TI aO 154 2 48 true [.slice none 0 0,.slice none 0 0]:=⟨by kernel_rfl,by kernel_rfl⟩
theorem Qv:TI aO 219 1 8 false [.map none]:=⟨by kernel_rfl,by kernel_rfl⟩
theorem VQ:TI aO 222 1 8 false [.nilFunc]:=⟨by kernel_rfl,by kernel_rfl⟩
theorem I6:TI aO 243 2 16 true (List.replicate 2 (.int .i64 0)):=⟨by kernel_rfl,by kernel_rfl⟩
theorem uw:cV aO 24 0=some (0,1):=by kernel_rfl
theorem Mw:cV aO 27 0=some (0,1):=by kernel_rfl
theorem fR:cV aO 46 0=some (0,1):=by kernel_rfl
theorem iZ:cV aO 46 1=some (1,1):=by kernel_rfl
theorem qr:cV aO 46 2=some (2,1):=by kernel_rfl
theorem oX:cV aO 46 3=some (3,1):=by kernel_rfl
theorem rq:cV aO 49 0=some (0,1):=by kernel_rfl
theorem zD:cV aO 51 0=some (0,1):=by kernel_rfl
theorem EL:cV aO 51 1=some (1,1):=by kernel_rfl
theorem uv:cV aO 60 0=some (0,1):=by kernel_rfl
theorem Ru:cV aO 60 1=some (1,1):=by kernel_rfl
theorem BO:cV aO 71 0=some (0,1):=by kernel_rfl
theorem jR:cV aO 71 1=some (1,1):=by kernel_rfl
theorem rp:cV aO 71 2=some (2,1):=by kernel_rfl
theorem zC:cV aO 71 3=some (3,1):=by kernel_rfl
theorem vO:cV aO 71 4=some (4,1):=by kernel_rfl
theorem Mv:cV aO 71 5=some (5,1):=by kernel_rfl
theorem vN:cV aO 71 6=some (6,1):=by kernel_rfl
theorem uu:cV aO 71 7=some (7,1):=by kernel_rfl
theorem s5:cV aO 71 8=some (8,1):=by kernel_rfl
theorem s4:cV aO 71 9=some (9,1):=by kernel_rfl
theorem vP:cV aO 71 10=some (10,1):=by kernel_rfl
theorem AQ:cV aO 71 11=some (11,1):=by kernel_rfl
theorem pM:cV aO 80 0=some (0,1):=by kernel_rfl
theorem XC:cV aO 80 1=some (1,1):=by kernel_rfl
theorem XB:cV aO 80 2=some (2,1):=by kernel_rfl
theorem zB:cV aO 80 3=some (3,1):=by kernel_rfl
theorem EK:cV aO 80 4=some (4,4):=by kernel_rfl
theorem XA:cV aO 96 0=some (0,1):=by kernel_rfl
theorem qq:cV aO 96 1=some (1,1):=by kernel_rfl
theorem Mu:cV aO 96 2=some (2,1):=by kernel_rfl
theorem H6:cV aO 115 0=some (0,1):=by kernel_rfl
theorem nf:cV aO 115 1=some (1,1):=by kernel_rfl
theorem tZ:cV aO 115 2=some (2,1):=by kernel_rfl
theorem TV:cV aO 154 0=some (0,1):=by kernel_rfl
theorem TU:cV aO 154 1=some (1,1):=by kernel_rfl
theorem Xy:mQ aO 24=some [(0,1)]:=by kernel_rfl
theorem abK:mQ aO 27=some [(0,1)]:=by kernel_rfl
theorem pL:mQ aO 46=some [(0,1),(1,1),(2,1),(3,1)]:=by kernel_rfl
theorem Xx:mQ aO 49=some [(0,1)]:=by kernel_rfl
theorem Zd:mQ aO 51=some [(0,1),(1,1)]:=by kernel_rfl
theorem Zc:mQ aO 71=some [(0,1),(1,1),(2,1),(3,1),(4,1),(5,1),(6,1),(7,1),(8,1),(9,1),(10,1),(11,1)]:=by kernel_rfl
theorem abJ:mQ aO 80=some [(0,1),(1,1),(2,1),(3,1),(4,4)]:=by kernel_rfl
theorem abI:mQ aO 96=some [(0,1),(1,1),(2,1)]:=by kernel_rfl
theorem Ze:mQ aO 115=some [(0,1),(1,1),(2,1)]:=by kernel_rfl
theorem V5:mQ aO 154=some [(0,1),(1,1)]:=by kernel_rfl
theorem acn:aj aO 11=true:=by kernel_rfl
theorem acm:aj aO 15=true:=by kernel_rfl
theorem acl:aj aO 16=true:=by kernel_rfl
theorem ack:aj aO 18=true:=by kernel_rfl
theorem acj:aj aO 23=true:=by kernel_rfl
theorem aci:aj aO 24=true:=by kernel_rfl
theorem ach:aj aO 29=true:=by kernel_rfl
theorem acg:aj aO 30=true:=by kernel_rfl
theorem acf:aj aO 31=true:=by kernel_rfl
theorem Z6:aj aO 32=true:=by kernel_rfl
theorem ace:aj aO 33=true:=by kernel_rfl
theorem acd:aj aO 34=true:=by kernel_rfl
theorem ZG:aj aO 38=true:=by kernel_rfl
theorem acc:aj aO 46=true:=by kernel_rfl
theorem acb:aj aO 47=true:=by kernel_rfl
theorem aca:aj aO 48=true:=by kernel_rfl
theorem ZE:aj aO 50=true:=by kernel_rfl
theorem ab9:aj aO 51=true:=by kernel_rfl
theorem ab8:aj aO 52=true:=by kernel_rfl
theorem ab7:aj aO 53=true:=by kernel_rfl
theorem ab6:aj aO 54=true:=by kernel_rfl
theorem ab5:aj aO 55=true:=by kernel_rfl
theorem ab4:aj aO 56=true:=by kernel_rfl
theorem ab3:aj aO 57=true:=by kernel_rfl
theorem ab2:aj aO 58=true:=by kernel_rfl
theorem ab1:aj aO 59=true:=by kernel_rfl
theorem ab0:aj aO 60=true:=by kernel_rfl
theorem abZ:aj aO 61=true:=by kernel_rfl
theorem ZD:aj aO 62=true:=by kernel_rfl
theorem Yo:aj aO 72=true:=by kernel_rfl
theorem R8:aj aO 73=true:=by kernel_rfl
theorem ZC:aj aO 74=true:=by kernel_rfl
theorem Yn:aj aO 75=true:=by kernel_rfl
theorem abY:aj aO 76=true:=by kernel_rfl
theorem ZB:aj aO 81=true:=by kernel_rfl
theorem abX:aj aO 83=true:=by kernel_rfl
theorem Ym:aj aO 84=true:=by kernel_rfl
theorem ZA:aj aO 85=true:=by kernel_rfl
theorem Zz:aj aO 86=true:=by kernel_rfl
theorem abW:aj aO 87=true:=by kernel_rfl
theorem Yl:aj aO 88=true:=by kernel_rfl
theorem Zy:aj aO 89=true:=by kernel_rfl
theorem abV:aj aO 90=true:=by kernel_rfl
theorem abU:aj aO 91=true:=by kernel_rfl
theorem Zx:aj aO 93=true:=by kernel_rfl
theorem Vx:aj aO 94=true:=by kernel_rfl
theorem Vw:aj aO 95=true:=by kernel_rfl
theorem Yk:aj aO 97=true:=by kernel_rfl
theorem abT:aj aO 98=true:=by kernel_rfl
theorem Ww:aj aO 101=true:=by kernel_rfl
theorem abo:aj aO 102=true:=by kernel_rfl
theorem Wv:aj aO 103=true:=by kernel_rfl
theorem Wu:aj aO 104=true:=by kernel_rfl
theorem abn:aj aO 105=true:=by kernel_rfl
theorem Sn:aj aO 106=true:=by kernel_rfl
theorem Sm:aj aO 107=true:=by kernel_rfl
theorem abm:aj aO 108=true:=by kernel_rfl
theorem Wt:aj aO 109=true:=by kernel_rfl
theorem abl:aj aO 110=true:=by kernel_rfl
theorem KE:aj aO 111=true:=by kernel_rfl
theorem KD:aj aO 112=true:=by kernel_rfl
theorem abk:aj aO 123=true:=by kernel_rfl
theorem abj:aj aO 126=true:=by kernel_rfl
theorem abi:aj aO 127=true:=by kernel_rfl
theorem abh:aj aO 128=true:=by kernel_rfl
theorem abg:aj aO 129=true:=by kernel_rfl
theorem KC:aj aO 130=true:=by kernel_rfl
theorem abf:aj aO 131=true:=by kernel_rfl
theorem abe:aj aO 132=true:=by kernel_rfl
theorem abd:aj aO 133=true:=by kernel_rfl
theorem abc:aj aO 134=true:=by kernel_rfl
theorem abb:aj aO 135=true:=by kernel_rfl
theorem Sl:aj aO 136=true:=by kernel_rfl
theorem aba:aj aO 137=true:=by kernel_rfl
theorem Ws:aj aO 149=true:=by kernel_rfl
theorem aa9:aj aO 150=true:=by kernel_rfl
theorem aa8:aj aO 151=true:=by kernel_rfl
theorem Sk:aj aO 152=true:=by kernel_rfl
theorem Wr:aj aO 153=true:=by kernel_rfl
theorem aa7:aj aO 154=true:=by kernel_rfl
theorem aa6:aj aO 157=true:=by kernel_rfl
theorem aa5:aj aO 158=true:=by kernel_rfl
theorem aa4:aj aO 159=true:=by kernel_rfl
theorem aa3:aj aO 160=true:=by kernel_rfl
theorem aa2:aj aO 161=true:=by kernel_rfl
theorem aa1:aj aO 162=true:=by kernel_rfl
theorem aa0:aj aO 170=true:=by kernel_rfl
theorem aaZ:aj aO 171=true:=by kernel_rfl
theorem aaY:aj aO 172=true:=by kernel_rfl
theorem aaX:aj aO 173=true:=by kernel_rfl
theorem Wq:aj aO 174=true:=by kernel_rfl
theorem aaW:aj aO 175=true:=by kernel_rfl
theorem Sj:aj aO 176=true:=by kernel_rfl
theorem KB:aj aO 177=true:=by kernel_rfl
theorem aaV:aj aO 178=true:=by kernel_rfl
theorem aaU:aj aO 179=true:=by kernel_rfl
theorem aaT:aj aO 180=true:=by kernel_rfl
theorem Wp:aj aO 181=true:=by kernel_rfl
theorem OB:aj aO 182=true:=by kernel_rfl
theorem aaS:aj aO 183=true:=by kernel_rfl
theorem aaR:aj aO 184=true:=by kernel_rfl
theorem aaQ:aj aO 185=true:=by kernel_rfl
theorem aaP:aj aO 186=true:=by kernel_rfl
theorem aaO:aj aO 187=true:=by kernel_rfl
theorem Si:aj aO 188=true:=by kernel_rfl
theorem aaN:aj aO 189=true:=by kernel_rfl
theorem aaM:aj aO 190=true:=by kernel_rfl
theorem aaL:aj aO 191=true:=by kernel_rfl
theorem aaK:aj aO 201=true:=by kernel_rfl
theorem aaJ:aj aO 202=true:=by kernel_rfl
theorem aaI:aj aO 203=true:=by kernel_rfl
theorem aaH:aj aO 204=true:=by kernel_rfl
theorem aaG:aj aO 205=true:=by kernel_rfl
theorem aaF:aj aO 206=true:=by kernel_rfl
theorem aaE:aj aO 207=true:=by kernel_rfl
theorem aaD:aj aO 208=true:=by kernel_rfl
theorem aaC:aj aO 209=true:=by kernel_rfl
theorem aaB:aj aO 210=true:=by kernel_rfl
theorem aaA:aj aO 211=true:=by kernel_rfl
theorem aaz:aj aO 212=true:=by kernel_rfl
theorem OA:aj aO 213=true:=by kernel_rfl
theorem aay:aj aO 214=true:=by kernel_rfl
theorem aax:aj aO 215=true:=by kernel_rfl
theorem Sh:aj aO 216=true:=by kernel_rfl
theorem aaw:aj aO 217=true:=by kernel_rfl
theorem aav:aj aO 218=true:=by kernel_rfl
theorem aau:aj aO 229=true:=by kernel_rfl
theorem aat:aj aO 242=true:=by kernel_rfl
theorem Wo:aj aO 243=true:=by kernel_rfl
theorem aar:aj aO 244=true:=by kernel_rfl
theorem aaq:aj aO 245=true:=by kernel_rfl
theorem Sf:aj aO 256=true:=by kernel_rfl
theorem aap:aj aO 257=true:=by kernel_rfl
theorem Oz:aj aO 258=true:=by kernel_rfl
theorem aao:aj aO 259=true:=by kernel_rfl
theorem aan:aj aO 260=true:=by kernel_rfl
theorem aam:aj aO 261=true:=by kernel_rfl
theorem Sd:aj aO 262=true:=by kernel_rfl
theorem Wn:aj aO 263=true:=by kernel_rfl
theorem aal:aj aO 264=true:=by kernel_rfl
theorem Wm:aj aO 265=true:=by kernel_rfl
theorem Wl:aj aO 266=true:=by kernel_rfl
theorem aak:aj aO 267=true:=by kernel_rfl
theorem Wk:aj aO 268=true:=by kernel_rfl
theorem aaj:aj aO 269=true:=by kernel_rfl
theorem aai:aj aO 270=true:=by kernel_rfl
theorem Wj:aj aO 271=true:=by kernel_rfl
theorem Sc:aj aO 272=true:=by kernel_rfl
theorem aah:aj aO 273=true:=by kernel_rfl
theorem aag:aj aO 274=true:=by kernel_rfl
theorem Wi:aj aO 275=true:=by kernel_rfl
theorem aaf:aj aO 276=true:=by kernel_rfl
theorem aae:aj aO 279=true:=by kernel_rfl
theorem aad:aj aO 280=true:=by kernel_rfl
theorem aac:aj aO 281=true:=by kernel_rfl
theorem Wh:aj aO 282=true:=by kernel_rfl
theorem aab:aj aO 283=true:=by kernel_rfl
theorem aaa:aj aO 284=true:=by kernel_rfl
theorem Sb:aj aO 285=true:=by kernel_rfl
theorem Z9:aj aO 286=true:=by kernel_rfl
theorem Z8:aj aO 287=true:=by kernel_rfl
theorem Oy:aj aO 288=true:=by kernel_rfl
theorem Sa:aj aO 289=true:=by kernel_rfl
theorem Z7:aj aO 290=true:=by kernel_rfl
theorem Wg:aj aO 310=true:=by kernel_rfl
theorem Wf:aj aO 311=true:=by kernel_rfl
theorem We:aj aO 312=true:=by kernel_rfl
theorem Z5:aj aO 321=true:=by kernel_rfl
theorem Z4:aj aO 322=true:=by kernel_rfl
theorem Z3:aj aO 323=true:=by kernel_rfl
theorem Wd:aj aO 324=true:=by kernel_rfl
theorem Z2:aj aO 325=true:=by kernel_rfl
theorem Z1:aj aO 326=true:=by kernel_rfl
theorem R9:aj aO 327=true:=by kernel_rfl
theorem Z0:aj aO 328=true:=by kernel_rfl
theorem ZZ:aj aO 329=true:=by kernel_rfl
theorem Ox:aj aO 330=true:=by kernel_rfl
theorem ZY:aj aO 331=true:=by kernel_rfl
theorem ZX:aj aO 332=true:=by kernel_rfl
theorem ZW:aj aO 333=true:=by kernel_rfl
theorem ZU:aj aO 334=true:=by kernel_rfl
theorem Ow:aj aO 335=true:=by kernel_rfl
theorem Wc:aj aO 336=true:=by kernel_rfl
theorem ZT:aj aO 337=true:=by kernel_rfl
theorem ZS:aj aO 338=true:=by kernel_rfl
theorem ZR:aj aO 339=true:=by kernel_rfl
theorem ZQ:aj aO 340=true:=by kernel_rfl
theorem ZP:aj aO 341=true:=by kernel_rfl
theorem ZO:aj aO 343=true:=by kernel_rfl
theorem ZN:aj aO 344=true:=by kernel_rfl
theorem ZM:aj aO 345=true:=by kernel_rfl
theorem ZL:aj aO 346=true:=by kernel_rfl
theorem Wb:aj aO 363=true:=by kernel_rfl
theorem ZK:aj aO 364=true:=by kernel_rfl
theorem ZJ:aj aO 365=true:=by kernel_rfl
theorem ZI:aj aO 366=true:=by kernel_rfl
theorem ZH:aj aO 376=true:=by kernel_rfl
theorem ZF:aj aO 382=true:=by kernel_rfl
theorem abv:ZV aO 97 (.nilFunc):=(show(Tryz.prog.info? 97).bind (fun i=>i.zero)=some (.nilFunc) by kernel_rfl)
theorem Yz:ZV aO 222 (.nilFunc):=(show(Tryz.prog.info? 222).bind (fun i=>i.zero)=some (.nilFunc) by kernel_rfl)
theorem Yy:ZV aO 238 (.nilFunc):=(show(Tryz.prog.info? 238).bind (fun i=>i.zero)=some (.nilFunc) by kernel_rfl)
theorem Zq:rh aO 46 af 2:=MD (n:=1) (fs:=[(3,0,false),(2,1,false),(44,2,false),(9,3,false)]) (by kernel_rfl) (by kernel_rfl) rfl (SK.cons cv rfl rfl cg (vk (Dj (n:=0) kM) 0) (SK.cons Bl rfl rfl dm (vk (Dj (n:=0) zZ) 0) (SK.cons Al rfl rfl iY (vk (Dj (n:=0) Aa) 0) (SK.cons Le rfl rfl gN (vk (Vo (n:=0) Ci) 0) SK.nil)))) (fun x y=>by cases x;cases y;simp [Bool.decide_and])
theorem MF:WA aO 46 af:=WA.of (by kernel_rfl) (vk Zq 18)
theorem Zr:WA aO 243 (ur (rI .i64) 2):=WA.of (by kernel_rfl) (vk (Vp (n:=1) Tryz.underlying243 cv rfl rfl (Dj (n:=0) kM)) 18)

end Go.Proofs.YtfhhakidodmdfaaGreatDoor

