/- di of this claim: T. -/
import Derived.Test.YtmogpgcfognefaaGreatDoorNdD
import Derived.Test.YtmogpgcfognefaaGreatDoorProg
import Derived.Test.YtmogpgcfognefaaGreatDoorNdS
import Derived.Test.YtmogpgcfognefaaGreatDoorNdV4
import Derived.Shelf.Strings.CaseAny
import Derived.KernelRfl
set_option linter.all false
namespace Go.Proofs.YtmogpgcfognefaaGreatDoor
open Go
noncomputable abbrev be:=Tryz.prog
def cZ:= @Tryz.underlying29
def pi:= @Tryz.underlying43
def ib:= @Tryz.underlying25
def kE:= @Tryz.underlying35
def kD:= @Tryz.underlying51
def kq:= @Tryz.underlying9
def nw:= @Tryz.underlying46
def n7:= @Tryz.underlying62
def oT:= @Tryz.underlying3
def rD:= @Tryz.underlying47
def rC:= @Tryz.underlying22
def sb:= @Tryz.underlying38
def ve:= @Tryz.underlying48
def BB:= @Tryz.underlying125
def BA:= @Tryz.underlying166
def FD:= @Tryz.underlying4
def Cf:= @Tryz.underlying61
def Ey:= @Tryz.underlying90
def NK:= @Tryz.underlying5

theorem mixed:Tryz.prog.follows .mixedOrders=true:=by kernel_rfl
theorem SG:TI be 2 1 8 false [.int .i64 0]:=⟨by kernel_rfl,by kernel_rfl⟩
theorem br:TI be 3 1 8 false [.int .i64 0]:=⟨by kernel_rfl,by kernel_rfl⟩
theorem NB:TI be 4 1 1 false [.bool false]:=⟨by kernel_rfl,by kernel_rfl⟩
theorem XP:TI be 5 1 1 false [.int .u8 0]:=⟨by kernel_rfl,by kernel_rfl⟩
theorem z6:TI be 9 1 16 false [.string ⟨#[]⟩]:=⟨by kernel_rfl,by kernel_rfl⟩
theorem vl:TI be 22 1 24 false [.slice none 0 0]:=⟨by kernel_rfl,by kernel_rfl⟩
theorem n9:TI be 24 1 24 true [.slice none 0 0]:=⟨by kernel_rfl,by kernel_rfl⟩
theorem n8:TI be 25 1 24 false [.slice none 0 0]:=⟨by kernel_rfl,by kernel_rfl⟩
theorem bV:TI be 29 1 24 false [.slice none 0 0]:=⟨by kernel_rfl,by kernel_rfl⟩
theorem fN:TI be 31 4 64 true [.slice none 0 0,.int .i64 0,.int .i64 0,.slice none 0 0]:=⟨by kernel_rfl,by kernel_rfl⟩
theorem nS:TI be 35 1 24 false [.slice none 0 0]:=⟨by kernel_rfl,by kernel_rfl⟩
theorem mg:TI be 37 1 24 true [.slice none 0 0]:=⟨by kernel_rfl,by kernel_rfl⟩
theorem yc:TI be 38 1 24 false [.slice none 0 0]:=⟨by kernel_rfl,by kernel_rfl⟩
theorem qi:TI be 40 3 64 true [.string ⟨#[]⟩,.slice none 0 0,.slice none 0 0]:=⟨by kernel_rfl,by kernel_rfl⟩
theorem pg:TI be 42 2 24 true [.string ⟨#[]⟩,.int .i64 0]:=⟨by kernel_rfl,by kernel_rfl⟩
theorem jZ:TI be 43 1 24 false [.slice none 0 0]:=⟨by kernel_rfl,by kernel_rfl⟩
theorem fG:TI be 45 1 24 true [.slice none 0 0]:=⟨by kernel_rfl,by kernel_rfl⟩
theorem sf:TI be 46 1 24 false [.slice none 0 0]:=⟨by kernel_rfl,by kernel_rfl⟩
theorem yW:TI be 47 1 24 false [.slice none 0 0]:=⟨by kernel_rfl,by kernel_rfl⟩
theorem yV:TI be 48 1 24 false [.slice none 0 0]:=⟨by kernel_rfl,by kernel_rfl⟩
theorem db:TI be 50 12 192 true [.int .i64 0,.int .i64 0,.int .i64 0,.int .i64 0,.slice none 0 0,.bool false,.slice none 0 0,.slice none 0 0,.slice none 0 0,.slice none 0 0,.slice none 0 0,.int .i64 0]:=⟨by kernel_rfl,by kernel_rfl⟩
theorem cD:TI be 55 2 32 true [.int .i64 0,.slice none 0 0]:=⟨by kernel_rfl,by kernel_rfl⟩
theorem BG:TI be 61 2 16 true (List.replicate 2 (.int .i64 0)):=⟨by kernel_rfl,by kernel_rfl⟩
theorem D7:TI be 62 1 24 false [.slice none 0 0]:=⟨by kernel_rfl,by kernel_rfl⟩
theorem NW:TI be 80 1 8 false [.int .u64 0]:=⟨by kernel_rfl,by kernel_rfl⟩
theorem uS:TI be 82 4 40 true [.int .i64 0,.int .i64 0,.int .u64 0,.string ⟨#[]⟩]:=⟨by kernel_rfl,by kernel_rfl⟩
theorem gS:TI be 107 2 32 true [.int .i64 0,.slice none 0 0]:=⟨by kernel_rfl,by kernel_rfl⟩
theorem wu:TI be 111 2 16 true [.int .i64 0,.bool false]:=⟨by kernel_rfl,by kernel_rfl⟩
theorem xE:TI be 113 1 8 false [.pointer none]:=⟨by kernel_rfl,by kernel_rfl⟩
theorem Cs:TI be 122 1 8 false [.pointer none]:=⟨by kernel_rfl,by kernel_rfl⟩
theorem Vo:TI be 124 18 336 true [.slice none 0 0,.slice none 0 0,.slice none 0 0,.int .i64 0,.int .i64 0,.int .i64 0,.int .i64 0,.slice none 0 0,.bool false,.slice none 0 0,.slice none 0 0,.slice none 0 0,.slice none 0 0,.slice none 0 0,.int .i64 0,.slice none 0 0,.slice none 0 0,.slice none 0 0]:=⟨by kernel_rfl,by kernel_rfl⟩
theorem dk:TI be 149 8 72 true [.int .i64 0,.int .i64 0,.int .i64 0,.int .i64 0,.int .i64 0,.int .i64 0,.int .u64 0,.string ⟨#[]⟩]:=⟨by kernel_rfl,by kernel_rfl⟩
theorem Kv:TI be 161 1 24 false [.slice none 0 0]:=⟨by kernel_rfl,by kernel_rfl⟩
theorem Vn:TI be 163 3 72 true [.slice none 0 0,.slice none 0 0,.slice none 0 0]:=⟨by kernel_rfl,by kernel_rfl⟩
theorem Ku:TI be 168 1 8 false [.pointer none]:=⟨by kernel_rfl,by kernel_rfl⟩
theorem Vm:TI be 170 17 264 true [.pointer none,.int .i64 0,.int .i64 0,.int .i64 0,.int .i64 0,.slice none 0 0,.bool false,.slice none 0 0,.slice none 0 0,.slice none 0 0,.slice none 0 0,.slice none 0 0,.int .i64 0,.int .i64 0,.slice none 0 0,.int .i64 0,.slice none 0 0]:=⟨by kernel_rfl,by kernel_rfl⟩
theorem AZ:TI be 187 1 24 true [.slice none 0 0]:=⟨by kernel_rfl,by kernel_rfl⟩
theorem Vl:TI be 192 1 8 false [.nilFunc]:=⟨by kernel_rfl,by kernel_rfl⟩
theorem Vk:TI be 231 1 8 false [.nilFunc]:=⟨by kernel_rfl,by kernel_rfl⟩
theorem NX:TI be 270 2 24 true [.string ⟨#[]⟩,.int .i64 0]:=⟨by kernel_rfl,by kernel_rfl⟩
theorem Vj:TI be 271 6 72 true [.string ⟨#[]⟩,.int .i64 0,.string ⟨#[]⟩,.int .i64 0,.string ⟨#[]⟩,.int .i64 0]:=⟨by kernel_rfl,by kernel_rfl⟩
theorem nV:cG be 24 0=some (0,1):=by kernel_rfl
theorem mO:cG be 31 0=some (0,1):=by kernel_rfl
theorem mN:cG be 31 1=some (1,1):=by kernel_rfl
theorem pK:cG be 31 2=some (2,1):=by kernel_rfl
theorem uF:cG be 31 3=some (3,1):=by kernel_rfl
theorem fY:cG be 37 0=some (0,1):=by kernel_rfl
theorem Dj:cG be 40 0=some (0,1):=by kernel_rfl
theorem pJ:cG be 40 1=some (1,1):=by kernel_rfl
theorem tp:cG be 40 2=some (2,1):=by kernel_rfl
theorem Gt:cG be 42 0=some (0,1):=by kernel_rfl
theorem Gs:cG be 42 1=some (1,1):=by kernel_rfl
theorem d3:cG be 45 0=some (0,1):=by kernel_rfl
theorem eh:cG be 50 0=some (0,1):=by kernel_rfl
theorem iS:cG be 50 1=some (1,1):=by kernel_rfl
theorem kI:cG be 50 2=some (2,1):=by kernel_rfl
theorem kj:cG be 50 3=some (3,1):=by kernel_rfl
theorem jV:cG be 50 4=some (4,1):=by kernel_rfl
theorem OQ:cG be 50 5=some (5,1):=by kernel_rfl
theorem uE:cG be 50 6=some (6,1):=by kernel_rfl
theorem jk:cG be 50 7=some (7,1):=by kernel_rfl
theorem ki:cG be 50 8=some (8,1):=by kernel_rfl
theorem rh:cG be 50 9=some (9,1):=by kernel_rfl
theorem px:cG be 50 10=some (10,1):=by kernel_rfl
theorem uh:cG be 50 11=some (11,1):=by kernel_rfl
theorem mM:cG be 55 0=some (0,1):=by kernel_rfl
theorem oQ:cG be 55 1=some (1,1):=by kernel_rfl
theorem uD:cG be 82 0=some (0,1):=by kernel_rfl
theorem yz:cG be 82 1=some (1,1):=by kernel_rfl
theorem Gr:cG be 82 2=some (2,1):=by kernel_rfl
theorem yy:cG be 82 3=some (3,1):=by kernel_rfl
theorem kJ:cG be 107 0=some (0,1):=by kernel_rfl
theorem ry:cG be 107 1=some (1,1):=by kernel_rfl
theorem B4:cG be 111 0=some (0,1):=by kernel_rfl
theorem Gw:cG be 124 0=some (0,1):=by kernel_rfl
theorem B3:cG be 124 1=some (1,1):=by kernel_rfl
theorem sG:cG be 124 2=some (2,1):=by kernel_rfl
theorem ia:cG be 124 3=some (3,12):=by kernel_rfl
theorem jH:cG be 124 4=some (15,1):=by kernel_rfl
theorem zC:cG be 124 5=some (16,1):=by kernel_rfl
theorem ga:cG be 124 6=some (17,1):=by kernel_rfl
theorem iT:cG be 149 0=some (0,1):=by kernel_rfl
theorem nZ:cG be 149 1=some (1,1):=by kernel_rfl
theorem ni:cG be 149 2=some (2,1):=by kernel_rfl
theorem lD:cG be 149 3=some (3,1):=by kernel_rfl
theorem sF:cG be 149 4=some (4,4):=by kernel_rfl
theorem rx:cG be 163 0=some (0,1):=by kernel_rfl
theorem Gv:cG be 163 1=some (1,1):=by kernel_rfl
theorem B2:cG be 163 2=some (2,1):=by kernel_rfl
theorem Ld:cG be 170 0=some (0,1):=by kernel_rfl
theorem B0:cG be 170 1=some (1,12):=by kernel_rfl
theorem vH:cG be 170 2=some (13,2):=by kernel_rfl
theorem Gu:cG be 170 3=some (15,2):=by kernel_rfl
theorem o8:cG be 187 0=some (0,1):=by kernel_rfl
theorem Qx:cG be 270 0=some (0,1):=by kernel_rfl
theorem Qw:cG be 270 1=some (1,1):=by kernel_rfl
theorem VJ:lz be 24=some [(0,1)]:=by kernel_rfl
theorem VI:lz be 31=some [(0,1),(1,1),(2,1),(3,1)]:=by kernel_rfl
theorem TW:lz be 37=some [(0,1)]:=by kernel_rfl
theorem X5:lz be 40=some [(0,1),(1,1),(2,1)]:=by kernel_rfl
theorem VH:lz be 42=some [(0,1),(1,1)]:=by kernel_rfl
theorem VG:lz be 45=some [(0,1)]:=by kernel_rfl
theorem JP:lz be 50=some [(0,1),(1,1),(2,1),(3,1),(4,1),(5,1),(6,1),(7,1),(8,1),(9,1),(10,1),(11,1)]:=by kernel_rfl
theorem tI:lz be 55=some [(0,1),(1,1)]:=by kernel_rfl
theorem M2:lz be 82=some [(0,1),(1,1),(2,1),(3,1)]:=by kernel_rfl
theorem VM:lz be 124=some [(0,1),(1,1),(2,1),(3,12),(15,1),(16,1),(17,1)]:=by kernel_rfl
theorem SU:lz be 149=some [(0,1),(1,1),(2,1),(3,1),(4,4)]:=by kernel_rfl
theorem VL:lz be 163=some [(0,1),(1,1),(2,1)]:=by kernel_rfl
theorem VK:lz be 170=some [(0,1),(1,12),(13,2),(15,2)]:=by kernel_rfl
theorem cb8:au be 8=true:=by kernel_rfl
theorem XK:au be 9=true:=by kernel_rfl
theorem YY:au be 10=true:=by kernel_rfl
theorem YX:au be 11=true:=by kernel_rfl
theorem YW:au be 12=true:=by kernel_rfl
theorem Xq:au be 13=true:=by kernel_rfl
theorem So:au be 14=true:=by kernel_rfl
theorem Pq:au be 15=true:=by kernel_rfl
theorem WZ:au be 16=true:=by kernel_rfl
theorem YV:au be 17=true:=by kernel_rfl
theorem YU:au be 18=true:=by kernel_rfl
theorem YT:au be 19=true:=by kernel_rfl
theorem Sn:au be 20=true:=by kernel_rfl
theorem YS:au be 21=true:=by kernel_rfl
theorem UL:au be 22=true:=by kernel_rfl
theorem Pm:au be 23=true:=by kernel_rfl
theorem YR:au be 32=true:=by kernel_rfl
theorem YQ:au be 33=true:=by kernel_rfl
theorem YP:au be 34=true:=by kernel_rfl
theorem Sm:au be 35=true:=by kernel_rfl
theorem YO:au be 36=true:=by kernel_rfl
theorem YN:au be 37=true:=by kernel_rfl
theorem YM:au be 38=true:=by kernel_rfl
theorem YL:au be 39=true:=by kernel_rfl
theorem UK:au be 40=true:=by kernel_rfl
theorem UJ:au be 41=true:=by kernel_rfl
theorem We:au be 42=true:=by kernel_rfl
theorem YK:au be 43=true:=by kernel_rfl
theorem YJ:au be 44=true:=by kernel_rfl
theorem Wd:au be 45=true:=by kernel_rfl
theorem YI:au be 46=true:=by kernel_rfl
theorem YH:au be 47=true:=by kernel_rfl
theorem Pj:au be 48=true:=by kernel_rfl
theorem YG:au be 49=true:=by kernel_rfl
theorem YF:au be 50=true:=by kernel_rfl
theorem YE:au be 51=true:=by kernel_rfl
theorem YD:au be 52=true:=by kernel_rfl
theorem Pi:au be 53=true:=by kernel_rfl
theorem YC:au be 54=true:=by kernel_rfl
theorem YB:au be 55=true:=by kernel_rfl
theorem UI:au be 56=true:=by kernel_rfl
theorem YA:au be 57=true:=by kernel_rfl
theorem Yz:au be 58=true:=by kernel_rfl
theorem Yy:au be 59=true:=by kernel_rfl
theorem Yx:au be 64=true:=by kernel_rfl
theorem Sl:au be 66=true:=by kernel_rfl
theorem Yw:au be 67=true:=by kernel_rfl
theorem Yv:au be 68=true:=by kernel_rfl
theorem Yu:au be 72=true:=by kernel_rfl
theorem Yt:au be 73=true:=by kernel_rfl
theorem Ys:au be 74=true:=by kernel_rfl
theorem Yr:au be 75=true:=by kernel_rfl
theorem Wc:au be 76=true:=by kernel_rfl
theorem Yq:au be 77=true:=by kernel_rfl
theorem Yp:au be 78=true:=by kernel_rfl
theorem Yo:au be 79=true:=by kernel_rfl
theorem Yn:au be 80=true:=by kernel_rfl
theorem Ym:au be 81=true:=by kernel_rfl
theorem Yl:au be 82=true:=by kernel_rfl
theorem Yk:au be 83=true:=by kernel_rfl
theorem Yj:au be 84=true:=by kernel_rfl
theorem Yi:au be 85=true:=by kernel_rfl
theorem Yh:au be 86=true:=by kernel_rfl
theorem Wb:au be 87=true:=by kernel_rfl
theorem Yg:au be 88=true:=by kernel_rfl
theorem Yf:au be 89=true:=by kernel_rfl
theorem Ye:au be 90=true:=by kernel_rfl
theorem Yd:au be 91=true:=by kernel_rfl
theorem Yc:au be 92=true:=by kernel_rfl
theorem Yb:au be 93=true:=by kernel_rfl
theorem Ya:au be 94=true:=by kernel_rfl
theorem X9:au be 95=true:=by kernel_rfl
theorem UH:au be 96=true:=by kernel_rfl
theorem X8:au be 97=true:=by kernel_rfl
theorem Wa:au be 98=true:=by kernel_rfl
theorem V9:au be 99=true:=by kernel_rfl
theorem XB:au be 100=true:=by kernel_rfl
theorem XA:au be 101=true:=by kernel_rfl
theorem Xz:au be 102=true:=by kernel_rfl
theorem LD:au be 103=true:=by kernel_rfl
theorem Ps:au be 104=true:=by kernel_rfl
theorem Xy:au be 105=true:=by kernel_rfl
theorem Xx:au be 106=true:=by kernel_rfl
theorem Xw:au be 107=true:=by kernel_rfl
theorem Xv:au be 108=true:=by kernel_rfl
theorem Xu:au be 109=true:=by kernel_rfl
theorem Tc:au be 115=true:=by kernel_rfl
theorem Xt:au be 116=true:=by kernel_rfl
theorem Xs:au be 117=true:=by kernel_rfl
theorem Xr:au be 118=true:=by kernel_rfl
theorem Tb:au be 135=true:=by kernel_rfl
theorem LC:au be 136=true:=by kernel_rfl
theorem Xp:au be 137=true:=by kernel_rfl
theorem Xo:au be 138=true:=by kernel_rfl
theorem Xn:au be 139=true:=by kernel_rfl
theorem Xm:au be 140=true:=by kernel_rfl
theorem Xl:au be 141=true:=by kernel_rfl
theorem Ta:au be 142=true:=by kernel_rfl
theorem S9:au be 143=true:=by kernel_rfl
theorem Xk:au be 144=true:=by kernel_rfl
theorem Xj:au be 145=true:=by kernel_rfl
theorem Xi:au be 146=true:=by kernel_rfl
theorem Xh:au be 147=true:=by kernel_rfl
theorem Pr:au be 148=true:=by kernel_rfl
theorem LB:au be 149=true:=by kernel_rfl
theorem S8:au be 150=true:=by kernel_rfl
theorem Xg:au be 151=true:=by kernel_rfl
theorem Xf:au be 152=true:=by kernel_rfl
theorem Xe:au be 153=true:=by kernel_rfl
theorem Xd:au be 154=true:=by kernel_rfl
theorem Xc:au be 155=true:=by kernel_rfl
theorem Xb:au be 156=true:=by kernel_rfl
theorem Xa:au be 157=true:=by kernel_rfl
theorem W0:au be 158=true:=by kernel_rfl
theorem S7:au be 159=true:=by kernel_rfl
theorem LA:au be 160=true:=by kernel_rfl
theorem WY:au be 161=true:=by kernel_rfl
theorem WX:au be 162=true:=by kernel_rfl
theorem S6:au be 163=true:=by kernel_rfl
theorem S5:au be 164=true:=by kernel_rfl
theorem WW:au be 165=true:=by kernel_rfl
theorem S4:au be 166=true:=by kernel_rfl
theorem Lz:au be 167=true:=by kernel_rfl
theorem WV:au be 168=true:=by kernel_rfl
theorem Pp:au be 169=true:=by kernel_rfl
theorem WU:au be 170=true:=by kernel_rfl
theorem WT:au be 171=true:=by kernel_rfl
theorem WS:au be 172=true:=by kernel_rfl
theorem S3:au be 173=true:=by kernel_rfl
theorem WR:au be 174=true:=by kernel_rfl
theorem WQ:au be 181=true:=by kernel_rfl
theorem WP:au be 184=true:=by kernel_rfl
theorem WO:au be 205=true:=by kernel_rfl
theorem SZ:au be 206=true:=by kernel_rfl
theorem WN:au be 207=true:=by kernel_rfl
theorem WM:au be 208=true:=by kernel_rfl
theorem WL:au be 209=true:=by kernel_rfl
theorem WK:au be 210=true:=by kernel_rfl
theorem WJ:au be 211=true:=by kernel_rfl
theorem WI:au be 212=true:=by kernel_rfl
theorem SY:au be 213=true:=by kernel_rfl
theorem WH:au be 214=true:=by kernel_rfl
theorem WG:au be 215=true:=by kernel_rfl
theorem WF:au be 216=true:=by kernel_rfl
theorem WE:au be 217=true:=by kernel_rfl
theorem WD:au be 218=true:=by kernel_rfl
theorem Po:au be 219=true:=by kernel_rfl
theorem WC:au be 220=true:=by kernel_rfl
theorem WB:au be 221=true:=by kernel_rfl
theorem WA:au be 222=true:=by kernel_rfl
theorem SX:au be 223=true:=by kernel_rfl
theorem Wz:au be 224=true:=by kernel_rfl
theorem Pn:au be 225=true:=by kernel_rfl
theorem SW:au be 226=true:=by kernel_rfl
theorem Wy:au be 227=true:=by kernel_rfl
theorem Wx:au be 228=true:=by kernel_rfl
theorem Ww:au be 229=true:=by kernel_rfl
theorem Wv:au be 230=true:=by kernel_rfl
theorem Wu:au be 231=true:=by kernel_rfl
theorem Wt:au be 250=true:=by kernel_rfl
theorem Ws:au be 251=true:=by kernel_rfl
theorem Wr:au be 252=true:=by kernel_rfl
theorem Wq:au be 253=true:=by kernel_rfl
theorem Wp:au be 254=true:=by kernel_rfl
theorem Wo:au be 255=true:=by kernel_rfl
theorem Wn:au be 256=true:=by kernel_rfl
theorem Wm:au be 263=true:=by kernel_rfl
theorem Wl:au be 264=true:=by kernel_rfl
theorem Pk:au be 277=true:=by kernel_rfl
theorem Ly:au be 278=true:=by kernel_rfl
theorem Wk:au be 279=true:=by kernel_rfl
theorem Wj:au be 291=true:=by kernel_rfl
theorem Wi:au be 292=true:=by kernel_rfl
theorem Wh:au be 299=true:=by kernel_rfl
theorem Wg:au be 300=true:=by kernel_rfl
theorem Wf:au be 304=true:=by kernel_rfl
theorem zv4:ZV be 4 (.bool false):=(show(Tryz.prog.info? 4).bind (fun i=>i.zero)=some (.bool false) by kernel_rfl)
theorem UZ:ZV be 128 (.nilFunc):=(show(Tryz.prog.info? 128).bind (fun i=>i.zero)=some (.nilFunc) by kernel_rfl)
theorem UY:ZV be 171 (.nilFunc):=(show(Tryz.prog.info? 171).bind (fun i=>i.zero)=some (.nilFunc) by kernel_rfl)
theorem R6:PE be 61 (pH (rI .i64) 2):=PE.of (by kernel_rfl) (qO (R5 (n:=1) Cf br rfl rfl (zD (n:=0) oT)) 18)
theorem V5:pf be 82 eJ 2:=Dp (n:=1) (fs:=[(3,0,false),(2,1,false),(80,2,false),(9,3,false)]) (by kernel_rfl) (by kernel_rfl) rfl (LS.cons br rfl rfl oO (qO (zD (n:=0) oT) 0) (LS.cons SG rfl rfl rf (qO (zD (n:=0) Tryz.underlying2) 0) (LS.cons NW rfl rfl vG (qO (zD (n:=0) Tryz.underlying80) 0) (LS.cons z6 rfl rfl oN (qO (R4 (n:=0) kq) 0) LS.nil)))) (fun x y=>by cases x;cases y;simp [Bool.decide_and])
theorem Nb:PE be 82 eJ:=PE.of (by kernel_rfl) (qO V5 18)
theorem UC:pf be 111 iG 2:=Dp (n:=1) (fs:=[(3,0,false),(4,1,false)]) (by kernel_rfl) (by kernel_rfl) rfl (LS.cons br rfl rfl wR (qO (zD (n:=0) oT) 0) (LS.cons NB rfl rfl OP (qO (O9 (n:=0) FD) 0) LS.nil)) (fun x y=>by cases x;cases y;simp [Bool.decide_and])
theorem V6:PE be 111 iG:=PE.of (by kernel_rfl) (qO UC 18)
theorem upX:Go.Proofs.Builder.Extra be n6:={sizeBuilder:=by kernel_rfl,liesBuilder:=by kernel_rfl,t5:=NK,a5:=Tryz.isAgg5,z5:=Tryz.sizeOf5,v5:=Tryz.zeroValue5,infoByte:=by kernel_rfl,cellsByte:=by kernel_rfl,sizeByte:=by kernel_rfl,neB5:=by decide}

end Go.Proofs.YtmogpgcfognefaaGreatDoor

