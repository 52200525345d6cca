/- cG of this claim: T. -/
import Derived.Test.YtmogpgcfognefaaGreatDoorNaD
import Derived.Test.YtmogpgcfognefaaGreatDoorProg
import Derived.Test.YtmogpgcfognefaaGreatDoorNaS
import Derived.Test.YtmogpgcfognefaaGreatDoorNaV4
import Derived.Shelf.Strings.CaseAny
import Derived.KernelRfl
set_option linter.all false
namespace Go.Proofs.YtmogpgcfognefaaGreatDoor
open Go
noncomputable abbrev aP:=Tryz.prog
def dr:= @Tryz.underlying29
def ju:= @Tryz.underlying43
def jQ:= @Tryz.underlying9
def kL:= @Tryz.underlying3
def lP:= @Tryz.underlying35
def mp:= @Tryz.underlying25
def mS:= @Tryz.underlying46
def pR:= @Tryz.underlying62
def qD:= @Tryz.underlying22
def qL:= @Tryz.underlying47
def qK:= @Tryz.underlying38
def rQ:= @Tryz.underlying51
def sw:= @Tryz.underlying61
def s8:= @Tryz.underlying48
def vZ:= @Tryz.underlying125
def vY:= @Tryz.underlying166
def Fl:= @Tryz.underlying4

theorem mixed:Tryz.prog.follows .mixedOrders=true:=by kernel_rfl
theorem MS:TI aP 2 1 8 false [.int .i64 0]:=⟨by kernel_rfl,by kernel_rfl⟩
theorem bL:TI aP 3 1 8 false [.int .i64 0]:=⟨by kernel_rfl,by kernel_rfl⟩
theorem GZ:TI aP 4 1 1 false [.bool false]:=⟨by kernel_rfl,by kernel_rfl⟩
theorem C0:TI aP 9 1 16 false [.string ⟨#[]⟩]:=⟨by kernel_rfl,by kernel_rfl⟩
theorem wT:TI aP 22 1 24 false [.slice none 0 0]:=⟨by kernel_rfl,by kernel_rfl⟩
theorem lq:TI aP 24 1 24 true [.slice none 0 0]:=⟨by kernel_rfl,by kernel_rfl⟩
theorem rW:TI aP 25 1 24 false [.slice none 0 0]:=⟨by kernel_rfl,by kernel_rfl⟩
theorem bT:TI aP 29 1 24 false [.slice none 0 0]:=⟨by kernel_rfl,by kernel_rfl⟩
theorem io:TI aP 31 4 64 true [.slice none 0 0,.int .i64 0,.int .i64 0,.slice none 0 0]:=⟨by kernel_rfl,by kernel_rfl⟩
theorem oM:TI aP 35 1 24 false [.slice none 0 0]:=⟨by kernel_rfl,by kernel_rfl⟩
theorem lg:TI aP 37 1 24 true [.slice none 0 0]:=⟨by kernel_rfl,by kernel_rfl⟩
theorem Bx:TI aP 38 1 24 false [.slice none 0 0]:=⟨by kernel_rfl,by kernel_rfl⟩
theorem oo:TI aP 40 3 64 true [.string ⟨#[]⟩,.slice none 0 0,.slice none 0 0]:=⟨by kernel_rfl,by kernel_rfl⟩
theorem nY:TI aP 42 2 24 true [.string ⟨#[]⟩,.int .i64 0]:=⟨by kernel_rfl,by kernel_rfl⟩
theorem mt:TI aP 43 1 24 false [.slice none 0 0]:=⟨by kernel_rfl,by kernel_rfl⟩
theorem gn:TI aP 45 1 24 true [.slice none 0 0]:=⟨by kernel_rfl,by kernel_rfl⟩
theorem qQ:TI aP 46 1 24 false [.slice none 0 0]:=⟨by kernel_rfl,by kernel_rfl⟩
theorem Bw:TI aP 47 1 24 false [.slice none 0 0]:=⟨by kernel_rfl,by kernel_rfl⟩
theorem Ap:TI aP 48 1 24 false [.slice none 0 0]:=⟨by kernel_rfl,by kernel_rfl⟩
theorem eu:TI aP 50 12 192 true [.int .i64 0,.int .i64 0,.int .i64 0,.int .i64 0,.slice none 0 0,.bool false,.slice none 0 0,.slice none 0 0,.slice none 0 0,.slice none 0 0,.slice none 0 0,.int .i64 0]:=⟨by kernel_rfl,by kernel_rfl⟩
theorem er:TI aP 55 2 32 true [.int .i64 0,.slice none 0 0]:=⟨by kernel_rfl,by kernel_rfl⟩
theorem tg:TI aP 61 2 16 true (List.replicate 2 (.int .i64 0)):=⟨by kernel_rfl,by kernel_rfl⟩
theorem yG:TI aP 62 1 24 false [.slice none 0 0]:=⟨by kernel_rfl,by kernel_rfl⟩
theorem MP:TI aP 80 1 8 false [.int .u64 0]:=⟨by kernel_rfl,by kernel_rfl⟩
theorem wd:TI aP 82 4 40 true [.int .i64 0,.int .i64 0,.int .u64 0,.string ⟨#[]⟩]:=⟨by kernel_rfl,by kernel_rfl⟩
theorem gL:TI aP 107 2 32 true [.int .i64 0,.slice none 0 0]:=⟨by kernel_rfl,by kernel_rfl⟩
theorem th:TI aP 111 2 16 true [.int .i64 0,.bool false]:=⟨by kernel_rfl,by kernel_rfl⟩
theorem sa:TI aP 113 1 8 false [.pointer none]:=⟨by kernel_rfl,by kernel_rfl⟩
theorem wU:TI aP 122 1 8 false [.pointer none]:=⟨by kernel_rfl,by kernel_rfl⟩
theorem MX:TI aP 124 18 336 true [.slice none 0 0,.slice none 0 0,.slice none 0 0,.int .i64 0,.int .i64 0,.int .i64 0,.int .i64 0,.slice none 0 0,.bool false,.slice none 0 0,.slice none 0 0,.slice none 0 0,.slice none 0 0,.slice none 0 0,.int .i64 0,.slice none 0 0,.slice none 0 0,.slice none 0 0]:=⟨by kernel_rfl,by kernel_rfl⟩
theorem dB:TI aP 149 8 72 true [.int .i64 0,.int .i64 0,.int .i64 0,.int .i64 0,.int .i64 0,.int .i64 0,.int .u64 0,.string ⟨#[]⟩]:=⟨by kernel_rfl,by kernel_rfl⟩
theorem Eg:TI aP 161 1 24 false [.slice none 0 0]:=⟨by kernel_rfl,by kernel_rfl⟩
theorem MW:TI aP 163 3 72 true [.slice none 0 0,.slice none 0 0,.slice none 0 0]:=⟨by kernel_rfl,by kernel_rfl⟩
theorem Ef:TI aP 168 1 8 false [.pointer none]:=⟨by kernel_rfl,by kernel_rfl⟩
theorem MU:TI aP 170 17 264 true [.pointer none,.int .i64 0,.int .i64 0,.int .i64 0,.int .i64 0,.slice none 0 0,.bool false,.slice none 0 0,.slice none 0 0,.slice none 0 0,.slice none 0 0,.slice none 0 0,.int .i64 0,.int .i64 0,.slice none 0 0,.int .i64 0,.slice none 0 0]:=⟨by kernel_rfl,by kernel_rfl⟩
theorem MT:TI aP 192 1 8 false [.nilFunc]:=⟨by kernel_rfl,by kernel_rfl⟩
theorem MR:TI aP 231 1 8 false [.nilFunc]:=⟨by kernel_rfl,by kernel_rfl⟩
theorem G0:TI aP 270 2 24 true [.string ⟨#[]⟩,.int .i64 0]:=⟨by kernel_rfl,by kernel_rfl⟩
theorem MQ:TI aP 271 6 72 true [.string ⟨#[]⟩,.int .i64 0,.string ⟨#[]⟩,.int .i64 0,.string ⟨#[]⟩,.int .i64 0]:=⟨by kernel_rfl,by kernel_rfl⟩
theorem pn:bQ aP 24 0=some (0,1):=by kernel_rfl
theorem nd:bQ aP 31 0=some (0,1):=by kernel_rfl
theorem sZ:bQ aP 31 1=some (1,1):=by kernel_rfl
theorem rf:bQ aP 31 2=some (2,1):=by kernel_rfl
theorem u5:bQ aP 31 3=some (3,1):=by kernel_rfl
theorem iF:bQ aP 37 0=some (0,1):=by kernel_rfl
theorem HB:bQ aP 40 0=some (0,1):=by kernel_rfl
theorem re:bQ aP 40 1=some (1,1):=by kernel_rfl
theorem xS:bQ aP 40 2=some (2,1):=by kernel_rfl
theorem LJ:bQ aP 42 0=some (0,1):=by kernel_rfl
theorem HA:bQ aP 42 1=some (1,1):=by kernel_rfl
theorem fB:bQ aP 45 0=some (0,1):=by kernel_rfl
theorem hJ:bQ aP 50 0=some (0,1):=by kernel_rfl
theorem rb:bQ aP 50 1=some (1,1):=by kernel_rfl
theorem u4:bQ aP 50 2=some (2,1):=by kernel_rfl
theorem nc:bQ aP 50 3=some (3,1):=by kernel_rfl
theorem nb:bQ aP 50 4=some (4,1):=by kernel_rfl
theorem LI:bQ aP 50 5=some (5,1):=by kernel_rfl
theorem sY:bQ aP 50 6=some (6,1):=by kernel_rfl
theorem lv:bQ aP 50 7=some (7,1):=by kernel_rfl
theorem la:bQ aP 50 8=some (8,1):=by kernel_rfl
theorem sX:bQ aP 50 9=some (9,1):=by kernel_rfl
theorem qg:bQ aP 50 10=some (10,1):=by kernel_rfl
theorem tX:bQ aP 50 11=some (11,1):=by kernel_rfl
theorem lu:bQ aP 55 0=some (0,1):=by kernel_rfl
theorem nQ:bQ aP 55 1=some (1,1):=by kernel_rfl
theorem u3:bQ aP 82 0=some (0,1):=by kernel_rfl
theorem AP:bQ aP 82 1=some (1,1):=by kernel_rfl
theorem LH:bQ aP 82 2=some (2,1):=by kernel_rfl
theorem Dz:bQ aP 82 3=some (3,1):=by kernel_rfl
theorem lM:bQ aP 107 0=some (0,1):=by kernel_rfl
theorem qi:bQ aP 107 1=some (1,1):=by kernel_rfl
theorem EF:bQ aP 111 0=some (0,1):=by kernel_rfl
theorem AS:bQ aP 124 0=some (0,1):=by kernel_rfl
theorem wz:bQ aP 124 1=some (1,1):=by kernel_rfl
theorem n7:bQ aP 124 2=some (2,1):=by kernel_rfl
theorem fb:bQ aP 124 3=some (3,12):=by kernel_rfl
theorem gw:bQ aP 124 4=some (15,1):=by kernel_rfl
theorem t7:bQ aP 124 5=some (16,1):=by kernel_rfl
theorem ef:bQ aP 124 6=some (17,1):=by kernel_rfl
theorem jt:bQ aP 149 0=some (0,1):=by kernel_rfl
theorem t6:bQ aP 149 1=some (1,1):=by kernel_rfl
theorem tZ:bQ aP 149 2=some (2,1):=by kernel_rfl
theorem mJ:bQ aP 149 3=some (3,1):=by kernel_rfl
theorem tY:bQ aP 149 4=some (4,4):=by kernel_rfl
theorem nr:bQ aP 163 0=some (0,1):=by kernel_rfl
theorem AR:bQ aP 163 1=some (1,1):=by kernel_rfl
theorem wy:bQ aP 163 2=some (2,1):=by kernel_rfl
theorem EE:bQ aP 170 0=some (0,1):=by kernel_rfl
theorem wx:bQ aP 170 1=some (1,12):=by kernel_rfl
theorem qh:bQ aP 170 2=some (13,2):=by kernel_rfl
theorem AQ:bQ aP 170 3=some (15,2):=by kernel_rfl
theorem IZ:bQ aP 270 0=some (0,1):=by kernel_rfl
theorem IY:bQ aP 270 1=some (1,1):=by kernel_rfl
theorem Ng:iY aP 24=some [(0,1)]:=by kernel_rfl
theorem Nf:iY aP 31=some [(0,1),(1,1),(2,1),(3,1)]:=by kernel_rfl
theorem LD:iY aP 37=some [(0,1)]:=by kernel_rfl
theorem Ps:iY aP 40=some [(0,1),(1,1),(2,1)]:=by kernel_rfl
theorem Nc:iY aP 42=some [(0,1),(1,1)]:=by kernel_rfl
theorem Nb:iY aP 45=some [(0,1)]:=by kernel_rfl
theorem Hy:iY aP 50=some [(0,1),(1,1),(2,1),(3,1),(4,1),(5,1),(6,1),(7,1),(8,1),(9,1),(10,1),(11,1)]:=by kernel_rfl
theorem B9:iY aP 55=some [(0,1),(1,1)]:=by kernel_rfl
theorem LC:iY aP 82=some [(0,1),(1,1),(2,1),(3,1)]:=by kernel_rfl
theorem Nj:iY aP 124=some [(0,1),(1,1),(2,1),(3,12),(15,1),(16,1),(17,1)]:=by kernel_rfl
theorem Ni:iY aP 163=some [(0,1),(1,1),(2,1)]:=by kernel_rfl
theorem Nh:iY aP 170=some [(0,1),(1,12),(13,2),(15,2)]:=by kernel_rfl
theorem cb8:aj aP 8=true:=by kernel_rfl
theorem O7:aj aP 9=true:=by kernel_rfl
theorem Qh:aj aP 10=true:=by kernel_rfl
theorem OM:aj aP 11=true:=by kernel_rfl
theorem Qg:aj aP 12=true:=by kernel_rfl
theorem OH:aj aP 13=true:=by kernel_rfl
theorem Ki:aj aP 14=true:=by kernel_rfl
theorem Mj:aj aP 15=true:=by kernel_rfl
theorem Ok:aj aP 16=true:=by kernel_rfl
theorem Qf:aj aP 32=true:=by kernel_rfl
theorem Qe:aj aP 33=true:=by kernel_rfl
theorem Qd:aj aP 34=true:=by kernel_rfl
theorem Kh:aj aP 35=true:=by kernel_rfl
theorem Qc:aj aP 36=true:=by kernel_rfl
theorem Qb:aj aP 37=true:=by kernel_rfl
theorem Qa:aj aP 38=true:=by kernel_rfl
theorem PZ:aj aP 39=true:=by kernel_rfl
theorem Mi:aj aP 40=true:=by kernel_rfl
theorem Mh:aj aP 41=true:=by kernel_rfl
theorem NK:aj aP 42=true:=by kernel_rfl
theorem PY:aj aP 43=true:=by kernel_rfl
theorem PX:aj aP 44=true:=by kernel_rfl
theorem NJ:aj aP 45=true:=by kernel_rfl
theorem PW:aj aP 46=true:=by kernel_rfl
theorem PV:aj aP 47=true:=by kernel_rfl
theorem HV:aj aP 48=true:=by kernel_rfl
theorem PU:aj aP 59=true:=by kernel_rfl
theorem Kf:aj aP 66=true:=by kernel_rfl
theorem PT:aj aP 67=true:=by kernel_rfl
theorem PS:aj aP 68=true:=by kernel_rfl
theorem PR:aj aP 72=true:=by kernel_rfl
theorem PQ:aj aP 73=true:=by kernel_rfl
theorem PP:aj aP 74=true:=by kernel_rfl
theorem PO:aj aP 75=true:=by kernel_rfl
theorem NI:aj aP 76=true:=by kernel_rfl
theorem PN:aj aP 77=true:=by kernel_rfl
theorem PM:aj aP 78=true:=by kernel_rfl
theorem PL:aj aP 79=true:=by kernel_rfl
theorem PK:aj aP 80=true:=by kernel_rfl
theorem PJ:aj aP 81=true:=by kernel_rfl
theorem PI:aj aP 82=true:=by kernel_rfl
theorem PH:aj aP 83=true:=by kernel_rfl
theorem PG:aj aP 84=true:=by kernel_rfl
theorem PF:aj aP 85=true:=by kernel_rfl
theorem PE:aj aP 86=true:=by kernel_rfl
theorem NH:aj aP 87=true:=by kernel_rfl
theorem PD:aj aP 88=true:=by kernel_rfl
theorem PC:aj aP 89=true:=by kernel_rfl
theorem PB:aj aP 90=true:=by kernel_rfl
theorem PA:aj aP 91=true:=by kernel_rfl
theorem Pz:aj aP 92=true:=by kernel_rfl
theorem Py:aj aP 93=true:=by kernel_rfl
theorem Px:aj aP 94=true:=by kernel_rfl
theorem Pw:aj aP 95=true:=by kernel_rfl
theorem Mg:aj aP 96=true:=by kernel_rfl
theorem OR:aj aP 105=true:=by kernel_rfl
theorem OQ:aj aP 106=true:=by kernel_rfl
theorem OP:aj aP 107=true:=by kernel_rfl
theorem OO:aj aP 108=true:=by kernel_rfl
theorem ON:aj aP 109=true:=by kernel_rfl
theorem KO:aj aP 115=true:=by kernel_rfl
theorem OL:aj aP 116=true:=by kernel_rfl
theorem OK:aj aP 117=true:=by kernel_rfl
theorem OJ:aj aP 118=true:=by kernel_rfl
theorem KN:aj aP 135=true:=by kernel_rfl
theorem EZ:aj aP 136=true:=by kernel_rfl
theorem OG:aj aP 137=true:=by kernel_rfl
theorem OF:aj aP 138=true:=by kernel_rfl
theorem OD:aj aP 139=true:=by kernel_rfl
theorem OC:aj aP 140=true:=by kernel_rfl
theorem OB:aj aP 141=true:=by kernel_rfl
theorem KM:aj aP 142=true:=by kernel_rfl
theorem KL:aj aP 143=true:=by kernel_rfl
theorem OA:aj aP 144=true:=by kernel_rfl
theorem Oz:aj aP 145=true:=by kernel_rfl
theorem Oy:aj aP 146=true:=by kernel_rfl
theorem Ox:aj aP 147=true:=by kernel_rfl
theorem HX:aj aP 148=true:=by kernel_rfl
theorem EY:aj aP 149=true:=by kernel_rfl
theorem KK:aj aP 150=true:=by kernel_rfl
theorem Ow:aj aP 151=true:=by kernel_rfl
theorem Ov:aj aP 152=true:=by kernel_rfl
theorem Ou:aj aP 153=true:=by kernel_rfl
theorem Ot:aj aP 154=true:=by kernel_rfl
theorem Oq:aj aP 155=true:=by kernel_rfl
theorem Oo:aj aP 156=true:=by kernel_rfl
theorem On:aj aP 157=true:=by kernel_rfl
theorem Ol:aj aP 158=true:=by kernel_rfl
theorem KJ:aj aP 159=true:=by kernel_rfl
theorem EX:aj aP 160=true:=by kernel_rfl
theorem Oj:aj aP 161=true:=by kernel_rfl
theorem Oh:aj aP 162=true:=by kernel_rfl
theorem KI:aj aP 163=true:=by kernel_rfl
theorem HW:aj aP 169=true:=by kernel_rfl
theorem Og:aj aP 170=true:=by kernel_rfl
theorem Oe:aj aP 171=true:=by kernel_rfl
theorem Od:aj aP 172=true:=by kernel_rfl
theorem KH:aj aP 173=true:=by kernel_rfl
theorem Oc:aj aP 174=true:=by kernel_rfl
theorem Oa:aj aP 181=true:=by kernel_rfl
theorem N9:aj aP 184=true:=by kernel_rfl
theorem N8:aj aP 205=true:=by kernel_rfl
theorem KG:aj aP 206=true:=by kernel_rfl
theorem N7:aj aP 207=true:=by kernel_rfl
theorem N6:aj aP 208=true:=by kernel_rfl
theorem N5:aj aP 209=true:=by kernel_rfl
theorem N4:aj aP 210=true:=by kernel_rfl
theorem N3:aj aP 211=true:=by kernel_rfl
theorem N2:aj aP 212=true:=by kernel_rfl
theorem KF:aj aP 213=true:=by kernel_rfl
theorem N1:aj aP 214=true:=by kernel_rfl
theorem N0:aj aP 215=true:=by kernel_rfl
theorem NZ:aj aP 216=true:=by kernel_rfl
theorem NY:aj aP 217=true:=by kernel_rfl
theorem NX:aj aP 218=true:=by kernel_rfl
theorem KE:aj aP 226=true:=by kernel_rfl
theorem NW:aj aP 227=true:=by kernel_rfl
theorem NV:aj aP 228=true:=by kernel_rfl
theorem NU:aj aP 229=true:=by kernel_rfl
theorem NT:aj aP 230=true:=by kernel_rfl
theorem NR:aj aP 231=true:=by kernel_rfl
theorem NQ:aj aP 250=true:=by kernel_rfl
theorem NP:aj aP 251=true:=by kernel_rfl
theorem NO:aj aP 256=true:=by kernel_rfl
theorem NN:aj aP 263=true:=by kernel_rfl
theorem NM:aj aP 264=true:=by kernel_rfl
theorem NL:aj aP 279=true:=by kernel_rfl
theorem zv4:ZV aP 4 (.bool false):=(show(Tryz.prog.info? 4).bind (fun i=>i.zero)=some (.bool false) by kernel_rfl)
theorem Mw:ZV aP 128 (.nilFunc):=(show(Tryz.prog.info? 128).bind (fun i=>i.zero)=some (.nilFunc) by kernel_rfl)
theorem Mv:ZV aP 171 (.nilFunc):=(show(Tryz.prog.info? 171).bind (fun i=>i.zero)=some (.nilFunc) by kernel_rfl)
theorem Gl:H9 aP 61 (lR (rI .i64) 2):=H9.of (by kernel_rfl) (mP (J1 (n:=1) sw bL rfl rfl (t8 (n:=0) kL)) 18)
theorem NC:ln aP 82 dx 2:=xW (n:=1) (fs:=[(3,0,false),(2,1,false),(80,2,false),(9,3,false)]) (by kernel_rfl) (by kernel_rfl) rfl (Ff.cons bL rfl rfl qc (mP (t8 (n:=0) kL) 0) (Ff.cons MS rfl rfl sW (mP (t8 (n:=0) Tryz.underlying2) 0) (Ff.cons MP rfl rfl Du (mP (t8 (n:=0) Tryz.underlying80) 0) (Ff.cons C0 rfl rfl qb (mP (J0 (n:=0) jQ) 0) Ff.nil)))) (fun x y=>by cases x;cases y;simp [Bool.decide_and])
theorem Mc:H9 aP 82 dx:=H9.of (by kernel_rfl) (mP NC 18)
theorem Ma:ln aP 111 fV 2:=xW (n:=1) (fs:=[(3,0,false),(4,1,false)]) (by kernel_rfl) (by kernel_rfl) rfl (Ff.cons bL rfl rfl xP (mP (t8 (n:=0) kL) 0) (Ff.cons GZ rfl rfl Hz (mP (HM (n:=0) Fl) 0) Ff.nil)) (fun x y=>by cases x;cases y;simp [Bool.decide_and])
theorem ND:H9 aP 111 fV:=H9.of (by kernel_rfl) (mP Ma 18)
theorem upX:Go.Proofs.Builder.Extra aP kK:={sizeBuilder:=by kernel_rfl,liesBuilder:=by kernel_rfl,t5:=Tryz.underlying5,a5:=Tryz.isAgg5,z5:=Tryz.sizeOf5,v5:=Tryz.zeroValue5,infoByte:=by kernel_rfl,cellsByte:=by kernel_rfl,sizeByte:=by kernel_rfl,neB5:=by decide}

end Go.Proofs.YtmogpgcfognefaaGreatDoor

