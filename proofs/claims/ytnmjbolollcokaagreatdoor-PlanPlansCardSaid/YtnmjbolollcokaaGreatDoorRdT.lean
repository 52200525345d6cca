/- dr of this claim: T. -/
import Derived.Test.YtnmjbolollcokaaGreatDoorRdD
import Derived.Test.YtnmjbolollcokaaGreatDoorProg
import Derived.Test.YtnmjbolollcokaaGreatDoorRdS
import Derived.Test.YtnmjbolollcokaaGreatDoorRdV4
import Derived.Shelf.Strings.CaseAny
import Derived.KernelRfl
set_option linter.all false
namespace Go.Proofs.YtnmjbolollcokaaGreatDoor
open Go
noncomputable abbrev bl:=Tryz.prog
def dc:= @Tryz.underlying42
def om:= @Tryz.underlying22
def oo:= @Tryz.underlying65
def kx:= @Tryz.underlying31
def kf:= @Tryz.underlying9
def lI:= @Tryz.underlying140
def nc:= @Tryz.underlying69
def nC:= @Tryz.underlying68
def qo:= @Tryz.underlying3
def sO:= @Tryz.underlying81
def ux:= @Tryz.underlying25
def uw:= @Tryz.underlying89
def vS:= @Tryz.underlying70
def Gu:= @Tryz.underlying139
def Gt:= @Tryz.underlying224
def K9:= @Tryz.underlying4
def Fe:= @Tryz.underlying254
def Fc:= @Tryz.underlying141
def N4:= @Tryz.underlying5

theorem mixed:Tryz.prog.follows .mixedOrders=true:=by kernel_rfl
theorem SA:TI bl 2 1 8 false [.int .i64 0]:=⟨by kernel_rfl,by kernel_rfl⟩
theorem bA:TI bl 3 1 8 false [.int .i64 0]:=⟨by kernel_rfl,by kernel_rfl⟩
theorem yK:TI bl 4 1 1 false [.bool false]:=⟨by kernel_rfl,by kernel_rfl⟩
theorem X3:TI bl 5 1 1 false [.int .u8 0]:=⟨by kernel_rfl,by kernel_rfl⟩
theorem A9:TI bl 9 1 16 false [.string ⟨#[]⟩]:=⟨by kernel_rfl,by kernel_rfl⟩
theorem iB:TI bl 22 1 24 false [.slice none 0 0]:=⟨by kernel_rfl,by kernel_rfl⟩
theorem lx:TI bl 24 1 24 true [.slice none 0 0]:=⟨by kernel_rfl,by kernel_rfl⟩
theorem xi:TI bl 25 1 24 false [.slice none 0 0]:=⟨by kernel_rfl,by kernel_rfl⟩
theorem yL:TI bl 27 1 24 true [.slice none 0 0]:=⟨by kernel_rfl,by kernel_rfl⟩
theorem jh:TI bl 31 1 24 false [.slice none 0 0]:=⟨by kernel_rfl,by kernel_rfl⟩
theorem jm:TI bl 33 1 24 true [.slice none 0 0]:=⟨by kernel_rfl,by kernel_rfl⟩
theorem cD:TI bl 42 1 24 false [.slice none 0 0]:=⟨by kernel_rfl,by kernel_rfl⟩
theorem QD:TI bl 46 1 24 false [.slice none 0 0]:=⟨by kernel_rfl,by kernel_rfl⟩
theorem JQ:TI bl 52 3 24 true [.int .i64 0,.int .i64 0,.int .i64 0]:=⟨by kernel_rfl,by kernel_rfl⟩
theorem ir:TI bl 65 1 24 false [.slice none 0 0]:=⟨by kernel_rfl,by kernel_rfl⟩
theorem eN:TI bl 67 1 24 true [.slice none 0 0]:=⟨by kernel_rfl,by kernel_rfl⟩
theorem pr:TI bl 68 1 24 false [.slice none 0 0]:=⟨by kernel_rfl,by kernel_rfl⟩
theorem te:TI bl 69 1 24 false [.slice none 0 0]:=⟨by kernel_rfl,by kernel_rfl⟩
theorem xh:TI bl 70 1 24 false [.slice none 0 0]:=⟨by kernel_rfl,by kernel_rfl⟩
theorem cz:TI bl 72 12 192 true [.int .i64 0,.int .i64 0,.int .i64 0,.int .i64 0,.slice none 0 0,.bool false,.slice none 0 0,.slice none 0 0,.slice none 0 0,.slice none 0 0,.slice none 0 0,.int .i64 0]:=⟨by kernel_rfl,by kernel_rfl⟩
theorem gk:TI bl 74 4 64 true [.slice none 0 0,.int .i64 0,.int .i64 0,.slice none 0 0]:=⟨by kernel_rfl,by kernel_rfl⟩
theorem nX:TI bl 78 2 32 true [.int .i64 0,.slice none 0 0]:=⟨by kernel_rfl,by kernel_rfl⟩
theorem yJ:TI bl 81 1 24 false [.slice none 0 0]:=⟨by kernel_rfl,by kernel_rfl⟩
theorem se:TI bl 83 3 64 true [.string ⟨#[]⟩,.slice none 0 0,.slice none 0 0]:=⟨by kernel_rfl,by kernel_rfl⟩
theorem pq:TI bl 85 2 24 true [.string ⟨#[]⟩,.int .i64 0]:=⟨by kernel_rfl,by kernel_rfl⟩
theorem wW:TI bl 89 1 24 false [.slice none 0 0]:=⟨by kernel_rfl,by kernel_rfl⟩
theorem X2:TI bl 91 4 96 true [.slice none 0 0,.slice none 0 0,.slice none 0 0,.slice none 0 0]:=⟨by kernel_rfl,by kernel_rfl⟩
theorem cg:TI bl 95 4 80 true [.slice none 0 0,.slice none 0 0,.int .i64 0,.slice none 0 0]:=⟨by kernel_rfl,by kernel_rfl⟩
theorem bW:TI bl 102 5 104 true [.slice none 0 0,.slice none 0 0,.slice none 0 0,.bool false,.slice none 0 0]:=⟨by kernel_rfl,by kernel_rfl⟩
theorem VN:TI bl 109 1 8 false [.nilFunc]:=⟨by kernel_rfl,by kernel_rfl⟩
theorem lv:TI bl 118 1 8 false [.pointer none]:=⟨by kernel_rfl,by kernel_rfl⟩
theorem VM:TI bl 123 3 72 true [.slice none 0 0,.slice none 0 0,.slice none 0 0]:=⟨by kernel_rfl,by kernel_rfl⟩
theorem HV:TI bl 126 1 8 false [.int .u64 0]:=⟨by kernel_rfl,by kernel_rfl⟩
theorem pt:TI bl 128 4 40 true [.int .i64 0,.int .i64 0,.int .u64 0,.string ⟨#[]⟩]:=⟨by kernel_rfl,by kernel_rfl⟩
theorem cR:TI bl 130 8 72 true [.int .i64 0,.int .i64 0,.int .i64 0,.int .i64 0,.int .i64 0,.int .i64 0,.int .u64 0,.string ⟨#[]⟩]:=⟨by kernel_rfl,by kernel_rfl⟩
theorem VL:TI bl 135 1 8 false [.nilFunc]:=⟨by kernel_rfl,by kernel_rfl⟩
theorem Fk:TI bl 141 2 16 true (List.replicate 2 (.int .i64 0)):=⟨by kernel_rfl,by kernel_rfl⟩
theorem yV:TI bl 173 2 16 true [.int .i64 0,.bool false]:=⟨by kernel_rfl,by kernel_rfl⟩
theorem VK:TI bl 186 1 8 false [.nilFunc]:=⟨by kernel_rfl,by kernel_rfl⟩
theorem Ol:TI bl 232 2 24 true [.string ⟨#[]⟩,.int .i64 0]:=⟨by kernel_rfl,by kernel_rfl⟩
theorem VJ:TI bl 233 6 72 true [.string ⟨#[]⟩,.int .i64 0,.string ⟨#[]⟩,.int .i64 0,.string ⟨#[]⟩,.int .i64 0]:=⟨by kernel_rfl,by kernel_rfl⟩
theorem jn:cB bl 24 0=some (0,1):=by kernel_rfl
theorem oM:cB bl 27 0=some (0,1):=by kernel_rfl
theorem iN:cB bl 33 0=some (0,1):=by kernel_rfl
theorem de:cB bl 67 0=some (0,1):=by kernel_rfl
theorem lh:cB bl 72 0=some (0,1):=by kernel_rfl
theorem fC:cB bl 72 1=some (1,1):=by kernel_rfl
theorem iy:cB bl 72 2=some (2,1):=by kernel_rfl
theorem oL:cB bl 72 3=some (3,1):=by kernel_rfl
theorem ly:cB bl 72 4=some (4,1):=by kernel_rfl
theorem Eg:cB bl 72 5=some (5,1):=by kernel_rfl
theorem p7:cB bl 72 6=some (6,1):=by kernel_rfl
theorem jP:cB bl 72 7=some (7,1):=by kernel_rfl
theorem io:cB bl 72 8=some (8,1):=by kernel_rfl
theorem lg:cB bl 72 9=some (9,1):=by kernel_rfl
theorem lX:cB bl 72 10=some (10,1):=by kernel_rfl
theorem tu:cB bl 72 11=some (11,1):=by kernel_rfl
theorem zK:cB bl 74 0=some (0,1):=by kernel_rfl
theorem Hb:cB bl 74 1=some (1,1):=by kernel_rfl
theorem Pk:cB bl 74 2=some (2,1):=by kernel_rfl
theorem Pj:cB bl 74 3=some (3,1):=by kernel_rfl
theorem rt:cB bl 78 0=some (0,1):=by kernel_rfl
theorem wx:cB bl 78 1=some (1,1):=by kernel_rfl
theorem BH:cB bl 83 0=some (0,1):=by kernel_rfl
theorem pn:cB bl 83 1=some (1,1):=by kernel_rfl
theorem vo:cB bl 83 2=some (2,1):=by kernel_rfl
theorem Ef:cB bl 85 0=some (0,1):=by kernel_rfl
theorem Ha:cB bl 85 1=some (1,1):=by kernel_rfl
theorem xP:cB bl 91 0=some (0,1):=by kernel_rfl
theorem Ud:cB bl 91 1=some (1,1):=by kernel_rfl
theorem Uc:cB bl 91 2=some (2,1):=by kernel_rfl
theorem Ku:cB bl 91 3=some (3,1):=by kernel_rfl
theorem vn:cB bl 95 0=some (0,1):=by kernel_rfl
theorem Kt:cB bl 95 1=some (1,1):=by kernel_rfl
theorem ul:cB bl 95 2=some (2,1):=by kernel_rfl
theorem p6:cB bl 95 3=some (3,1):=by kernel_rfl
theorem ic:cB bl 102 0=some (0,1):=by kernel_rfl
theorem mF:cB bl 102 1=some (1,1):=by kernel_rfl
theorem Hd:cB bl 102 2=some (2,1):=by kernel_rfl
theorem nq:cB bl 102 3=some (3,1):=by kernel_rfl
theorem kL:cB bl 102 4=some (4,1):=by kernel_rfl
theorem Hc:cB bl 123 0=some (0,1):=by kernel_rfl
theorem oc:cB bl 123 1=some (1,1):=by kernel_rfl
theorem uZ:cB bl 123 2=some (2,1):=by kernel_rfl
theorem rQ:cB bl 128 0=some (0,1):=by kernel_rfl
theorem wz:cB bl 128 1=some (1,1):=by kernel_rfl
theorem C6:cB bl 128 2=some (2,1):=by kernel_rfl
theorem wy:cB bl 128 3=some (3,1):=by kernel_rfl
theorem fV:cB bl 130 0=some (0,1):=by kernel_rfl
theorem pe:cB bl 130 1=some (1,1):=by kernel_rfl
theorem n9:cB bl 130 2=some (2,1):=by kernel_rfl
theorem j7:cB bl 130 3=some (3,1):=by kernel_rfl
theorem tw:cB bl 130 4=some (4,4):=by kernel_rfl
theorem C5:cB bl 173 0=some (0,1):=by kernel_rfl
theorem Q4:cB bl 232 0=some (0,1):=by kernel_rfl
theorem Q3:cB bl 232 1=some (1,1):=by kernel_rfl
theorem Pg:jO bl 24=some [(0,1)]:=by kernel_rfl
theorem Yk:jO bl 27=some [(0,1)]:=by kernel_rfl
theorem Ea:jO bl 33=some [(0,1)]:=by kernel_rfl
theorem Yj:jO bl 52=some [(0,1),(1,1),(2,1)]:=by kernel_rfl
theorem Ua:jO bl 67=some [(0,1)]:=by kernel_rfl
theorem Nm:jO bl 72=some [(0,1),(1,1),(2,1),(3,1),(4,1),(5,1),(6,1),(7,1),(8,1),(9,1),(10,1),(11,1)]:=by kernel_rfl
theorem G3:jO bl 74=some [(0,1),(1,1),(2,1),(3,1)]:=by kernel_rfl
theorem T9:jO bl 78=some [(0,1),(1,1)]:=by kernel_rfl
theorem VX:jO bl 83=some [(0,1),(1,1),(2,1)]:=by kernel_rfl
theorem T8:jO bl 85=some [(0,1),(1,1)]:=by kernel_rfl
theorem Yi:jO bl 91=some [(0,1),(1,1),(2,1),(3,1)]:=by kernel_rfl
theorem T7:jO bl 95=some [(0,1),(1,1),(2,1),(3,1)]:=by kernel_rfl
theorem Lx:jO bl 102=some [(0,1),(1,1),(2,1),(3,1),(4,1)]:=by kernel_rfl
theorem VY:jO bl 123=some [(0,1),(1,1),(2,1)]:=by kernel_rfl
theorem FW:jO bl 128=some [(0,1),(1,1),(2,1),(3,1)]:=by kernel_rfl
theorem cb8:av bl 8=true:=by kernel_rfl
theorem cb9:av bl 9=true:=by kernel_rfl
theorem Y5:av bl 10=true:=by kernel_rfl
theorem XL:av bl 11=true:=by kernel_rfl
theorem Y4:av bl 12=true:=by kernel_rfl
theorem Y3:av bl 13=true:=by kernel_rfl
theorem Y2:av bl 17=true:=by kernel_rfl
theorem PV:av bl 23=true:=by kernel_rfl
theorem Y1:av bl 27=true:=by kernel_rfl
theorem Y0:av bl 29=true:=by kernel_rfl
theorem Vi:av bl 30=true:=by kernel_rfl
theorem YZ:av bl 31=true:=by kernel_rfl
theorem YY:av bl 32=true:=by kernel_rfl
theorem YX:av bl 33=true:=by kernel_rfl
theorem YW:av bl 34=true:=by kernel_rfl
theorem NF:av bl 35=true:=by kernel_rfl
theorem Wj:av bl 36=true:=by kernel_rfl
theorem YV:av bl 37=true:=by kernel_rfl
theorem YU:av bl 38=true:=by kernel_rfl
theorem YT:av bl 39=true:=by kernel_rfl
theorem YS:av bl 40=true:=by kernel_rfl
theorem YR:av bl 41=true:=by kernel_rfl
theorem ND:av bl 42=true:=by kernel_rfl
theorem Vh:av bl 43=true:=by kernel_rfl
theorem YQ:av bl 44=true:=by kernel_rfl
theorem YP:av bl 45=true:=by kernel_rfl
theorem YO:av bl 46=true:=by kernel_rfl
theorem Wi:av bl 47=true:=by kernel_rfl
theorem YN:av bl 48=true:=by kernel_rfl
theorem YM:av bl 49=true:=by kernel_rfl
theorem Vg:av bl 55=true:=by kernel_rfl
theorem Je:av bl 56=true:=by kernel_rfl
theorem YL:av bl 58=true:=by kernel_rfl
theorem YK:av bl 59=true:=by kernel_rfl
theorem YJ:av bl 60=true:=by kernel_rfl
theorem YI:av bl 61=true:=by kernel_rfl
theorem YH:av bl 62=true:=by kernel_rfl
theorem Vf:av bl 63=true:=by kernel_rfl
theorem YG:av bl 64=true:=by kernel_rfl
theorem Jd:av bl 65=true:=by kernel_rfl
theorem YF:av bl 66=true:=by kernel_rfl
theorem YE:av bl 67=true:=by kernel_rfl
theorem YD:av bl 68=true:=by kernel_rfl
theorem YC:av bl 69=true:=by kernel_rfl
theorem YB:av bl 70=true:=by kernel_rfl
theorem YA:av bl 71=true:=by kernel_rfl
theorem Yz:av bl 72=true:=by kernel_rfl
theorem Yy:av bl 73=true:=by kernel_rfl
theorem Yx:av bl 74=true:=by kernel_rfl
theorem Yw:av bl 75=true:=by kernel_rfl
theorem Yv:av bl 76=true:=by kernel_rfl
theorem Jc:av bl 77=true:=by kernel_rfl
theorem Sn:av bl 78=true:=by kernel_rfl
theorem Yu:av bl 79=true:=by kernel_rfl
theorem Yt:av bl 80=true:=by kernel_rfl
theorem Ys:av bl 81=true:=by kernel_rfl
theorem Ve:av bl 82=true:=by kernel_rfl
theorem Yr:av bl 83=true:=by kernel_rfl
theorem Yq:av bl 93=true:=by kernel_rfl
theorem Vd:av bl 96=true:=by kernel_rfl
theorem Yp:av bl 97=true:=by kernel_rfl
theorem Yo:av bl 98=true:=by kernel_rfl
theorem Yn:av bl 99=true:=by kernel_rfl
theorem SY:av bl 100=true:=by kernel_rfl
theorem XQ:av bl 101=true:=by kernel_rfl
theorem XP:av bl 102=true:=by kernel_rfl
theorem LY:av bl 103=true:=by kernel_rfl
theorem XO:av bl 104=true:=by kernel_rfl
theorem XN:av bl 105=true:=by kernel_rfl
theorem u5:av bl 106=true:=by kernel_rfl
theorem Ct:av bl 107=true:=by kernel_rfl
theorem Qc:av bl 108=true:=by kernel_rfl
theorem XM:av bl 109=true:=by kernel_rfl
theorem SX:av bl 110=true:=by kernel_rfl
theorem XK:av bl 111=true:=by kernel_rfl
theorem Jf:av bl 112=true:=by kernel_rfl
theorem SW:av bl 113=true:=by kernel_rfl
theorem XJ:av bl 114=true:=by kernel_rfl
theorem XI:av bl 115=true:=by kernel_rfl
theorem XH:av bl 116=true:=by kernel_rfl
theorem XG:av bl 117=true:=by kernel_rfl
theorem y7:av bl 118=true:=by kernel_rfl
theorem XF:av bl 119=true:=by kernel_rfl
theorem LX:av bl 120=true:=by kernel_rfl
theorem Qb:av bl 121=true:=by kernel_rfl
theorem LW:av bl 122=true:=by kernel_rfl
theorem Qa:av bl 123=true:=by kernel_rfl
theorem XE:av bl 124=true:=by kernel_rfl
theorem XD:av bl 125=true:=by kernel_rfl
theorem XC:av bl 126=true:=by kernel_rfl
theorem SV:av bl 127=true:=by kernel_rfl
theorem XB:av bl 143=true:=by kernel_rfl
theorem XA:av bl 144=true:=by kernel_rfl
theorem Xz:av bl 145=true:=by kernel_rfl
theorem Xy:av bl 147=true:=by kernel_rfl
theorem Xx:av bl 148=true:=by kernel_rfl
theorem Xw:av bl 149=true:=by kernel_rfl
theorem Xv:av bl 150=true:=by kernel_rfl
theorem Xu:av bl 151=true:=by kernel_rfl
theorem Xt:av bl 152=true:=by kernel_rfl
theorem Xs:av bl 153=true:=by kernel_rfl
theorem Xr:av bl 154=true:=by kernel_rfl
theorem Xq:av bl 155=true:=by kernel_rfl
theorem Xp:av bl 156=true:=by kernel_rfl
theorem Xo:av bl 157=true:=by kernel_rfl
theorem Xn:av bl 158=true:=by kernel_rfl
theorem SU:av bl 172=true:=by kernel_rfl
theorem Xm:av bl 173=true:=by kernel_rfl
theorem Xl:av bl 174=true:=by kernel_rfl
theorem Xk:av bl 175=true:=by kernel_rfl
theorem Xj:av bl 176=true:=by kernel_rfl
theorem Xi:av bl 177=true:=by kernel_rfl
theorem Xh:av bl 178=true:=by kernel_rfl
theorem Xg:av bl 179=true:=by kernel_rfl
theorem Xf:av bl 180=true:=by kernel_rfl
theorem PZ:av bl 181=true:=by kernel_rfl
theorem Xe:av bl 182=true:=by kernel_rfl
theorem Xd:av bl 183=true:=by kernel_rfl
theorem Xc:av bl 184=true:=by kernel_rfl
theorem ST:av bl 185=true:=by kernel_rfl
theorem Xb:av bl 186=true:=by kernel_rfl
theorem PY:av bl 187=true:=by kernel_rfl
theorem Xa:av bl 188=true:=by kernel_rfl
theorem PX:av bl 189=true:=by kernel_rfl
theorem W0:av bl 190=true:=by kernel_rfl
theorem WZ:av bl 191=true:=by kernel_rfl
theorem WY:av bl 192=true:=by kernel_rfl
theorem WX:av bl 193=true:=by kernel_rfl
theorem LV:av bl 199=true:=by kernel_rfl
theorem WW:av bl 200=true:=by kernel_rfl
theorem WV:av bl 201=true:=by kernel_rfl
theorem SS:av bl 202=true:=by kernel_rfl
theorem SR:av bl 203=true:=by kernel_rfl
theorem WU:av bl 204=true:=by kernel_rfl
theorem WT:av bl 205=true:=by kernel_rfl
theorem WS:av bl 206=true:=by kernel_rfl
theorem SQ:av bl 207=true:=by kernel_rfl
theorem WR:av bl 208=true:=by kernel_rfl
theorem WQ:av bl 209=true:=by kernel_rfl
theorem PW:av bl 210=true:=by kernel_rfl
theorem WP:av bl 211=true:=by kernel_rfl
theorem WO:av bl 212=true:=by kernel_rfl
theorem WN:av bl 213=true:=by kernel_rfl
theorem WM:av bl 218=true:=by kernel_rfl
theorem WL:av bl 225=true:=by kernel_rfl
theorem WK:av bl 226=true:=by kernel_rfl
theorem WJ:av bl 227=true:=by kernel_rfl
theorem WI:av bl 228=true:=by kernel_rfl
theorem WH:av bl 229=true:=by kernel_rfl
theorem WG:av bl 230=true:=by kernel_rfl
theorem PU:av bl 231=true:=by kernel_rfl
theorem WF:av bl 232=true:=by kernel_rfl
theorem WE:av bl 233=true:=by kernel_rfl
theorem WD:av bl 234=true:=by kernel_rfl
theorem SP:av bl 235=true:=by kernel_rfl
theorem WC:av bl 236=true:=by kernel_rfl
theorem WB:av bl 237=true:=by kernel_rfl
theorem WA:av bl 238=true:=by kernel_rfl
theorem Wz:av bl 239=true:=by kernel_rfl
theorem Wy:av bl 240=true:=by kernel_rfl
theorem Wx:av bl 241=true:=by kernel_rfl
theorem Ww:av bl 242=true:=by kernel_rfl
theorem Wv:av bl 243=true:=by kernel_rfl
theorem LU:av bl 251=true:=by kernel_rfl
theorem LT:av bl 252=true:=by kernel_rfl
theorem SO:av bl 253=true:=by kernel_rfl
theorem Wu:av bl 254=true:=by kernel_rfl
theorem Wt:av bl 255=true:=by kernel_rfl
theorem Ws:av bl 256=true:=by kernel_rfl
theorem Wr:av bl 257=true:=by kernel_rfl
theorem Wq:av bl 263=true:=by kernel_rfl
theorem Wp:av bl 264=true:=by kernel_rfl
theorem Wo:av bl 265=true:=by kernel_rfl
theorem Wn:av bl 271=true:=by kernel_rfl
theorem Wm:av bl 272=true:=by kernel_rfl
theorem Wl:av bl 273=true:=by kernel_rfl
theorem Wk:av bl 285=true:=by kernel_rfl
theorem Vt:ZV bl 138 (.nilFunc):=(show(Tryz.prog.info? 138).bind (fun i=>i.zero)=some (.nilFunc) by kernel_rfl)
theorem Vs:ZV bl 223 (.nilFunc):=(show(Tryz.prog.info? 223).bind (fun i=>i.zero)=some (.nilFunc) by kernel_rfl)
theorem PJ:ma bl 128 eG 2:=zM (n:=1) (fs:=[(3,0,false),(2,1,false),(126,2,false),(9,3,false)]) (by kernel_rfl) (by kernel_rfl) rfl (Gk.cons bA rfl rfl oK (ll (tz (n:=0) qo) 0) (Gk.cons SA rfl rfl rq (ll (tz (n:=0) Tryz.underlying2) 0) (Gk.cons HV rfl rfl wv (ll (tz (n:=0) Tryz.underlying126) 0) (Gk.cons A9 rfl rfl p5 (ll (Si (n:=0) kf) 0) Gk.nil)))) (fun x y=>by cases x;cases y;simp [Bool.decide_and])
theorem F5:Mr bl 128 eG:=Mr.of (by kernel_rfl) (ll PJ 18)
theorem U0:ma bl 130 bc 3:=zM (n:=2) (fs:=[(3,0,false),(3,1,false),(3,2,false),(3,3,false),(128,4,false)]) (by kernel_rfl) (by kernel_rfl) rfl (Gk.cons bA rfl rfl dd (ll (tz (n:=0) qo) 1) (Gk.cons bA rfl rfl ko (ll (tz (n:=0) qo) 1) (Gk.cons bA rfl rfl jC (ll (tz (n:=0) qo) 1) (Gk.cons bA rfl rfl eQ (ll (tz (n:=0) qo) 1) (Gk.cons pt rfl rfl mu (ll PJ 0) Gk.nil))))) (fun x y=>by cases x;cases y;simp [Bool.decide_and])
theorem Wg:Mr bl 130 bc:=Mr.of (by kernel_rfl) (ll U0 17)
theorem Wf:Mr bl 141 (vh (rI .i64) 2):=Mr.of (by kernel_rfl) (ll (Sj (n:=1) Fc bA rfl rfl (tz (n:=0) qo)) 18)
theorem UZ:ma bl 173 kJ 2:=zM (n:=1) (fs:=[(3,0,false),(4,1,false)]) (by kernel_rfl) (by kernel_rfl) rfl (Gk.cons bA rfl rfl xN (ll (tz (n:=0) qo) 0) (Gk.cons yK rfl rfl Pi (ll (PI (n:=0) K9) 0) Gk.nil)) (fun x y=>by cases x;cases y;simp [Bool.decide_and])
theorem We:Mr bl 173 kJ:=Mr.of (by kernel_rfl) (ll UZ 18)
theorem upX:Go.Proofs.Builder.Extra bl oe:={sizeBuilder:=by kernel_rfl,liesBuilder:=by kernel_rfl,t5:=N4,a5:=Tryz.isAgg5,z5:=Tryz.sizeOf5,v5:=Tryz.zeroValue5,infoByte:=by kernel_rfl,cellsByte:=by kernel_rfl,sizeByte:=by kernel_rfl,neB5:=by decide}

end Go.Proofs.YtnmjbolollcokaaGreatDoor

