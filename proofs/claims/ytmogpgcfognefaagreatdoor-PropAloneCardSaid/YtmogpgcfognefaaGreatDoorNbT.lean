/- cF of this claim: T. -/
import Derived.Test.YtmogpgcfognefaaGreatDoorNbD
import Derived.Test.YtmogpgcfognefaaGreatDoorProg
import Derived.Test.YtmogpgcfognefaaGreatDoorNbS
import Derived.Test.YtmogpgcfognefaaGreatDoorNbV4
import Derived.Shelf.Strings.CaseAny
import Derived.KernelRfl
set_option linter.all false
namespace Go.Proofs.YtmogpgcfognefaaGreatDoor
open Go
noncomputable abbrev aP:=Tryz.prog
def dp:= @Tryz.underlying29
def jv:= @Tryz.underlying43
def jP:= @Tryz.underlying9
def la:= @Tryz.underlying25
def k7:= @Tryz.underlying3
def mO:= @Tryz.underlying46
def o9:= @Tryz.underlying35
def pq:= @Tryz.underlying22
def pN:= @Tryz.underlying38
def qL:= @Tryz.underlying47
def qK:= @Tryz.underlying62
def rU:= @Tryz.underlying51
def s7:= @Tryz.underlying48
def vJ:= @Tryz.underlying125
def vI:= @Tryz.underlying166
def wr:= @Tryz.underlying61
def DW:= @Tryz.underlying4

theorem mixed:Tryz.prog.follows .mixedOrders=true:=by kernel_rfl
theorem My:TI aP 2 1 8 false [.int .i64 0]:=⟨by kernel_rfl,by kernel_rfl⟩
theorem bJ:TI aP 3 1 8 false [.int .i64 0]:=⟨by kernel_rfl,by kernel_rfl⟩
theorem GF:TI aP 4 1 1 false [.bool false]:=⟨by kernel_rfl,by kernel_rfl⟩
theorem CI:TI aP 9 1 16 false [.string ⟨#[]⟩]:=⟨by kernel_rfl,by kernel_rfl⟩
theorem uz:TI aP 22 1 24 false [.slice none 0 0]:=⟨by kernel_rfl,by kernel_rfl⟩
theorem lL:TI aP 24 1 24 true [.slice none 0 0]:=⟨by kernel_rfl,by kernel_rfl⟩
theorem rX:TI aP 25 1 24 false [.slice none 0 0]:=⟨by kernel_rfl,by kernel_rfl⟩
theorem bV:TI aP 29 1 24 false [.slice none 0 0]:=⟨by kernel_rfl,by kernel_rfl⟩
theorem je:TI aP 31 4 64 true [.slice none 0 0,.int .i64 0,.int .i64 0,.slice none 0 0]:=⟨by kernel_rfl,by kernel_rfl⟩
theorem sH:TI aP 35 1 24 false [.slice none 0 0]:=⟨by kernel_rfl,by kernel_rfl⟩
theorem nR:TI aP 37 1 24 true [.slice none 0 0]:=⟨by kernel_rfl,by kernel_rfl⟩
theorem zY:TI aP 38 1 24 false [.slice none 0 0]:=⟨by kernel_rfl,by kernel_rfl⟩
theorem nQ:TI aP 40 3 64 true [.string ⟨#[]⟩,.slice none 0 0,.slice none 0 0]:=⟨by kernel_rfl,by kernel_rfl⟩
theorem mQ:TI aP 42 2 24 true [.string ⟨#[]⟩,.int .i64 0]:=⟨by kernel_rfl,by kernel_rfl⟩
theorem mo:TI aP 43 1 24 false [.slice none 0 0]:=⟨by kernel_rfl,by kernel_rfl⟩
theorem gj:TI aP 45 1 24 true [.slice none 0 0]:=⟨by kernel_rfl,by kernel_rfl⟩
theorem qP:TI aP 46 1 24 false [.slice none 0 0]:=⟨by kernel_rfl,by kernel_rfl⟩
theorem Bc:TI aP 47 1 24 false [.slice none 0 0]:=⟨by kernel_rfl,by kernel_rfl⟩
theorem zX:TI aP 48 1 24 false [.slice none 0 0]:=⟨by kernel_rfl,by kernel_rfl⟩
theorem d3:TI aP 50 12 192 true [.int .i64 0,.int .i64 0,.int .i64 0,.int .i64 0,.slice none 0 0,.bool false,.slice none 0 0,.slice none 0 0,.slice none 0 0,.slice none 0 0,.slice none 0 0,.int .i64 0]:=⟨by kernel_rfl,by kernel_rfl⟩
theorem ek:TI aP 55 2 32 true [.int .i64 0,.slice none 0 0]:=⟨by kernel_rfl,by kernel_rfl⟩
theorem vQ:TI aP 61 2 16 true (List.replicate 2 (.int .i64 0)):=⟨by kernel_rfl,by kernel_rfl⟩
theorem yn:TI aP 62 1 24 false [.slice none 0 0]:=⟨by kernel_rfl,by kernel_rfl⟩
theorem Mv:TI aP 80 1 8 false [.int .u64 0]:=⟨by kernel_rfl,by kernel_rfl⟩
theorem vP:TI aP 82 4 40 true [.int .i64 0,.int .i64 0,.int .u64 0,.string ⟨#[]⟩]:=⟨by kernel_rfl,by kernel_rfl⟩
theorem gJ:TI aP 107 2 32 true [.int .i64 0,.slice none 0 0]:=⟨by kernel_rfl,by kernel_rfl⟩
theorem tg:TI aP 111 2 16 true [.int .i64 0,.bool false]:=⟨by kernel_rfl,by kernel_rfl⟩
theorem se:TI aP 113 1 8 false [.pointer none]:=⟨by kernel_rfl,by kernel_rfl⟩
theorem wD:TI aP 122 1 8 false [.pointer none]:=⟨by kernel_rfl,by kernel_rfl⟩
theorem MC:TI aP 124 18 336 true [.slice none 0 0,.slice none 0 0,.slice none 0 0,.int .i64 0,.int .i64 0,.int .i64 0,.int .i64 0,.slice none 0 0,.bool false,.slice none 0 0,.slice none 0 0,.slice none 0 0,.slice none 0 0,.slice none 0 0,.int .i64 0,.slice none 0 0,.slice none 0 0,.slice none 0 0]:=⟨by kernel_rfl,by kernel_rfl⟩
theorem dy:TI aP 149 8 72 true [.int .i64 0,.int .i64 0,.int .i64 0,.int .i64 0,.int .i64 0,.int .i64 0,.int .u64 0,.string ⟨#[]⟩]:=⟨by kernel_rfl,by kernel_rfl⟩
theorem D3:TI aP 161 1 24 false [.slice none 0 0]:=⟨by kernel_rfl,by kernel_rfl⟩
theorem MB:TI aP 163 3 72 true [.slice none 0 0,.slice none 0 0,.slice none 0 0]:=⟨by kernel_rfl,by kernel_rfl⟩
theorem D2:TI aP 168 1 8 false [.pointer none]:=⟨by kernel_rfl,by kernel_rfl⟩
theorem MA:TI aP 170 17 264 true [.pointer none,.int .i64 0,.int .i64 0,.int .i64 0,.int .i64 0,.slice none 0 0,.bool false,.slice none 0 0,.slice none 0 0,.slice none 0 0,.slice none 0 0,.slice none 0 0,.int .i64 0,.int .i64 0,.slice none 0 0,.int .i64 0,.slice none 0 0]:=⟨by kernel_rfl,by kernel_rfl⟩
theorem Mz:TI aP 192 1 8 false [.nilFunc]:=⟨by kernel_rfl,by kernel_rfl⟩
theorem Mx:TI aP 231 1 8 false [.nilFunc]:=⟨by kernel_rfl,by kernel_rfl⟩
theorem GG:TI aP 270 2 24 true [.string ⟨#[]⟩,.int .i64 0]:=⟨by kernel_rfl,by kernel_rfl⟩
theorem Mw:TI aP 271 6 72 true [.string ⟨#[]⟩,.int .i64 0,.string ⟨#[]⟩,.int .i64 0,.string ⟨#[]⟩,.int .i64 0]:=⟨by kernel_rfl,by kernel_rfl⟩
theorem nI:bL aP 24 0=some (0,1):=by kernel_rfl
theorem m7:bL aP 31 0=some (0,1):=by kernel_rfl
theorem sW:bL aP 31 1=some (1,1):=by kernel_rfl
theorem re:bL aP 31 2=some (2,1):=by kernel_rfl
theorem Aw:bL aP 31 3=some (3,1):=by kernel_rfl
theorem lT:bL aP 37 0=some (0,1):=by kernel_rfl
theorem Hf:bL aP 40 0=some (0,1):=by kernel_rfl
theorem qi:bL aP 40 1=some (1,1):=by kernel_rfl
theorem xA:bL aP 40 2=some (2,1):=by kernel_rfl
theorem Lr:bL aP 42 0=some (0,1):=by kernel_rfl
theorem Dk:bL aP 42 1=some (1,1):=by kernel_rfl
theorem fv:bL aP 45 0=some (0,1):=by kernel_rfl
theorem gD:bL aP 50 0=some (0,1):=by kernel_rfl
theorem rb:bL aP 50 1=some (1,1):=by kernel_rfl
theorem uW:bL aP 50 2=some (2,1):=by kernel_rfl
theorem nH:bL aP 50 3=some (3,1):=by kernel_rfl
theorem m6:bL aP 50 4=some (4,1):=by kernel_rfl
theorem Lq:bL aP 50 5=some (5,1):=by kernel_rfl
theorem sV:bL aP 50 6=some (6,1):=by kernel_rfl
theorem lq:bL aP 50 7=some (7,1):=by kernel_rfl
theorem kZ:bL aP 50 8=some (8,1):=by kernel_rfl
theorem sU:bL aP 50 9=some (9,1):=by kernel_rfl
theorem qh:bL aP 50 10=some (10,1):=by kernel_rfl
theorem tS:bL aP 50 11=some (11,1):=by kernel_rfl
theorem ln:bL aP 55 0=some (0,1):=by kernel_rfl
theorem pi:bL aP 55 1=some (1,1):=by kernel_rfl
theorem uV:bL aP 82 0=some (0,1):=by kernel_rfl
theorem Av:bL aP 82 1=some (1,1):=by kernel_rfl
theorem Lp:bL aP 82 2=some (2,1):=by kernel_rfl
theorem Dj:bL aP 82 3=some (3,1):=by kernel_rfl
theorem lF:bL aP 107 0=some (0,1):=by kernel_rfl
theorem qk:bL aP 107 1=some (1,1):=by kernel_rfl
theorem Er:bL aP 111 0=some (0,1):=by kernel_rfl
theorem Az:bL aP 124 0=some (0,1):=by kernel_rfl
theorem wi:bL aP 124 1=some (1,1):=by kernel_rfl
theorem nY:bL aP 124 2=some (2,1):=by kernel_rfl
theorem eX:bL aP 124 3=some (3,12):=by kernel_rfl
theorem gu:bL aP 124 4=some (15,1):=by kernel_rfl
theorem tY:bL aP 124 5=some (16,1):=by kernel_rfl
theorem ed:bL aP 124 6=some (17,1):=by kernel_rfl
theorem js:bL aP 149 0=some (0,1):=by kernel_rfl
theorem tX:bL aP 149 1=some (1,1):=by kernel_rfl
theorem tW:bL aP 149 2=some (2,1):=by kernel_rfl
theorem mC:bL aP 149 3=some (3,1):=by kernel_rfl
theorem tU:bL aP 149 4=some (4,4):=by kernel_rfl
theorem nh:bL aP 163 0=some (0,1):=by kernel_rfl
theorem Ay:bL aP 163 1=some (1,1):=by kernel_rfl
theorem wh:bL aP 163 2=some (2,1):=by kernel_rfl
theorem Ep:bL aP 170 0=some (0,1):=by kernel_rfl
theorem wg:bL aP 170 1=some (1,12):=by kernel_rfl
theorem qj:bL aP 170 2=some (13,2):=by kernel_rfl
theorem Ax:bL aP 170 3=some (15,2):=by kernel_rfl
theorem IH:bL aP 270 0=some (0,1):=by kernel_rfl
theorem IG:bL aP 270 1=some (1,1):=by kernel_rfl
theorem MS:iY aP 24=some [(0,1)]:=by kernel_rfl
theorem ID:iY aP 31=some [(0,1),(1,1),(2,1),(3,1)]:=by kernel_rfl
theorem IC:iY aP 37=some [(0,1)]:=by kernel_rfl
theorem O6:iY aP 40=some [(0,1),(1,1),(2,1)]:=by kernel_rfl
theorem MR:iY aP 42=some [(0,1),(1,1)]:=by kernel_rfl
theorem MQ:iY aP 45=some [(0,1)]:=by kernel_rfl
theorem FS:iY aP 50=some [(0,1),(1,1),(2,1),(3,1),(4,1),(5,1),(6,1),(7,1),(8,1),(9,1),(10,1),(11,1)]:=by kernel_rfl
theorem BL:iY aP 55=some [(0,1),(1,1)]:=by kernel_rfl
theorem Ln:iY aP 82=some [(0,1),(1,1),(2,1),(3,1)]:=by kernel_rfl
theorem MW:iY aP 124=some [(0,1),(1,1),(2,1),(3,12),(15,1),(16,1),(17,1)]:=by kernel_rfl
theorem MU:iY aP 163=some [(0,1),(1,1),(2,1)]:=by kernel_rfl
theorem MT:iY aP 170=some [(0,1),(1,12),(13,2),(15,2)]:=by kernel_rfl
theorem cb8:aj aP 8=true:=by kernel_rfl
theorem cb9:aj aP 9=true:=by kernel_rfl
theorem PK:aj aP 10=true:=by kernel_rfl
theorem LY:aj aP 11=true:=by kernel_rfl
theorem Oj:aj aP 12=true:=by kernel_rfl
theorem Oh:aj aP 13=true:=by kernel_rfl
theorem N5:aj aP 15=true:=by kernel_rfl
theorem PJ:aj aP 16=true:=by kernel_rfl
theorem PI:aj aP 32=true:=by kernel_rfl
theorem PH:aj aP 33=true:=by kernel_rfl
theorem PG:aj aP 34=true:=by kernel_rfl
theorem LX:aj aP 35=true:=by kernel_rfl
theorem PF:aj aP 36=true:=by kernel_rfl
theorem PE:aj aP 37=true:=by kernel_rfl
theorem PD:aj aP 38=true:=by kernel_rfl
theorem PC:aj aP 39=true:=by kernel_rfl
theorem LW:aj aP 40=true:=by kernel_rfl
theorem LV:aj aP 41=true:=by kernel_rfl
theorem No:aj aP 42=true:=by kernel_rfl
theorem PB:aj aP 43=true:=by kernel_rfl
theorem Nn:aj aP 45=true:=by kernel_rfl
theorem PA:aj aP 46=true:=by kernel_rfl
theorem Pz:aj aP 47=true:=by kernel_rfl
theorem Hy:aj aP 48=true:=by kernel_rfl
theorem Py:aj aP 59=true:=by kernel_rfl
theorem JX:aj aP 66=true:=by kernel_rfl
theorem Px:aj aP 67=true:=by kernel_rfl
theorem Pw:aj aP 68=true:=by kernel_rfl
theorem Pv:aj aP 72=true:=by kernel_rfl
theorem Pu:aj aP 73=true:=by kernel_rfl
theorem Pt:aj aP 74=true:=by kernel_rfl
theorem Ps:aj aP 75=true:=by kernel_rfl
theorem Nm:aj aP 76=true:=by kernel_rfl
theorem Pr:aj aP 77=true:=by kernel_rfl
theorem Pq:aj aP 78=true:=by kernel_rfl
theorem Pp:aj aP 79=true:=by kernel_rfl
theorem Po:aj aP 80=true:=by kernel_rfl
theorem Pn:aj aP 81=true:=by kernel_rfl
theorem Pm:aj aP 82=true:=by kernel_rfl
theorem Pl:aj aP 83=true:=by kernel_rfl
theorem Pk:aj aP 84=true:=by kernel_rfl
theorem Pj:aj aP 85=true:=by kernel_rfl
theorem Pi:aj aP 86=true:=by kernel_rfl
theorem Nl:aj aP 87=true:=by kernel_rfl
theorem Ph:aj aP 88=true:=by kernel_rfl
theorem Pg:aj aP 89=true:=by kernel_rfl
theorem Pf:aj aP 90=true:=by kernel_rfl
theorem Pe:aj aP 91=true:=by kernel_rfl
theorem Pd:aj aP 92=true:=by kernel_rfl
theorem Pc:aj aP 93=true:=by kernel_rfl
theorem Pb:aj aP 94=true:=by kernel_rfl
theorem Pa:aj aP 95=true:=by kernel_rfl
theorem LU:aj aP 96=true:=by kernel_rfl
theorem Ov:aj aP 105=true:=by kernel_rfl
theorem Ou:aj aP 106=true:=by kernel_rfl
theorem Ot:aj aP 107=true:=by kernel_rfl
theorem Oq:aj aP 108=true:=by kernel_rfl
theorem Oo:aj aP 109=true:=by kernel_rfl
theorem Kz:aj aP 115=true:=by kernel_rfl
theorem On:aj aP 116=true:=by kernel_rfl
theorem Ol:aj aP 117=true:=by kernel_rfl
theorem Ok:aj aP 118=true:=by kernel_rfl
theorem Ky:aj aP 135=true:=by kernel_rfl
theorem EK:aj aP 136=true:=by kernel_rfl
theorem Og:aj aP 137=true:=by kernel_rfl
theorem Oe:aj aP 138=true:=by kernel_rfl
theorem Od:aj aP 139=true:=by kernel_rfl
theorem Oc:aj aP 140=true:=by kernel_rfl
theorem Oa:aj aP 141=true:=by kernel_rfl
theorem Kx:aj aP 142=true:=by kernel_rfl
theorem Kw:aj aP 143=true:=by kernel_rfl
theorem N9:aj aP 144=true:=by kernel_rfl
theorem N8:aj aP 145=true:=by kernel_rfl
theorem N7:aj aP 146=true:=by kernel_rfl
theorem N6:aj aP 147=true:=by kernel_rfl
theorem HA:aj aP 148=true:=by kernel_rfl
theorem EJ:aj aP 149=true:=by kernel_rfl
theorem Kv:aj aP 150=true:=by kernel_rfl
theorem N4:aj aP 151=true:=by kernel_rfl
theorem N3:aj aP 152=true:=by kernel_rfl
theorem N2:aj aP 153=true:=by kernel_rfl
theorem N1:aj aP 154=true:=by kernel_rfl
theorem N0:aj aP 155=true:=by kernel_rfl
theorem NZ:aj aP 156=true:=by kernel_rfl
theorem NY:aj aP 157=true:=by kernel_rfl
theorem NX:aj aP 158=true:=by kernel_rfl
theorem Ku:aj aP 159=true:=by kernel_rfl
theorem EI:aj aP 160=true:=by kernel_rfl
theorem NW:aj aP 161=true:=by kernel_rfl
theorem NV:aj aP 162=true:=by kernel_rfl
theorem Kt:aj aP 163=true:=by kernel_rfl
theorem Hz:aj aP 169=true:=by kernel_rfl
theorem NU:aj aP 170=true:=by kernel_rfl
theorem NT:aj aP 171=true:=by kernel_rfl
theorem NR:aj aP 172=true:=by kernel_rfl
theorem Ks:aj aP 173=true:=by kernel_rfl
theorem NQ:aj aP 174=true:=by kernel_rfl
theorem NP:aj aP 181=true:=by kernel_rfl
theorem NO:aj aP 184=true:=by kernel_rfl
theorem NN:aj aP 205=true:=by kernel_rfl
theorem Kr:aj aP 206=true:=by kernel_rfl
theorem NM:aj aP 207=true:=by kernel_rfl
theorem NL:aj aP 208=true:=by kernel_rfl
theorem NK:aj aP 209=true:=by kernel_rfl
theorem NJ:aj aP 210=true:=by kernel_rfl
theorem NI:aj aP 211=true:=by kernel_rfl
theorem NH:aj aP 212=true:=by kernel_rfl
theorem Kq:aj aP 213=true:=by kernel_rfl
theorem NF:aj aP 214=true:=by kernel_rfl
theorem ND:aj aP 215=true:=by kernel_rfl
theorem NC:aj aP 216=true:=by kernel_rfl
theorem NB:aj aP 217=true:=by kernel_rfl
theorem NA:aj aP 218=true:=by kernel_rfl
theorem Kp:aj aP 226=true:=by kernel_rfl
theorem Nz:aj aP 227=true:=by kernel_rfl
theorem Ny:aj aP 228=true:=by kernel_rfl
theorem Nx:aj aP 229=true:=by kernel_rfl
theorem Nw:aj aP 230=true:=by kernel_rfl
theorem Nv:aj aP 231=true:=by kernel_rfl
theorem Nu:aj aP 250=true:=by kernel_rfl
theorem Nt:aj aP 251=true:=by kernel_rfl
theorem Ns:aj aP 256=true:=by kernel_rfl
theorem Nr:aj aP 263=true:=by kernel_rfl
theorem Nq:aj aP 264=true:=by kernel_rfl
theorem Np:aj aP 279=true:=by kernel_rfl
theorem zv4:ZV aP 4 (.bool false):=(show(Tryz.prog.info? 4).bind (fun i=>i.zero)=some (.bool false) by kernel_rfl)
theorem Mf:ZV aP 128 (.nilFunc):=(show(Tryz.prog.info? 128).bind (fun i=>i.zero)=some (.nilFunc) by kernel_rfl)
theorem Me:ZV aP 171 (.nilFunc):=(show(Tryz.prog.info? 171).bind (fun i=>i.zero)=some (.nilFunc) by kernel_rfl)
theorem JK:HK aP 61 (lN (rI .i64) 2):=HK.of (by kernel_rfl) (mJ (JJ (n:=1) wr bJ rfl rfl (tZ (n:=0) k7)) 18)
theorem Ni:ll aP 82 dr 2:=xE (n:=1) (fs:=[(3,0,false),(2,1,false),(80,2,false),(9,3,false)]) (by kernel_rfl) (by kernel_rfl) rfl (EW.cons bJ rfl rfl qd (mJ (tZ (n:=0) k7) 0) (EW.cons My rfl rfl sS (mJ (tZ (n:=0) Tryz.underlying2) 0) (EW.cons Mv rfl rfl De (mJ (tZ (n:=0) Tryz.underlying80) 0) (EW.cons CI rfl rfl qc (mJ (JI (n:=0) jP) 0) EW.nil)))) (fun x y=>by cases x;cases y;simp [Bool.decide_and])
theorem LQ:HK aP 82 dr:=HK.of (by kernel_rfl) (mJ Ni 18)
theorem LO:ll aP 111 fT 2:=xE (n:=1) (fs:=[(3,0,false),(4,1,false)]) (by kernel_rfl) (by kernel_rfl) rfl (EW.cons bJ rfl rfl xx (mJ (tZ (n:=0) k7) 0) (EW.cons GF rfl rfl He (mJ (Hp (n:=0) DW) 0) EW.nil)) (fun x y=>by cases x;cases y;simp [Bool.decide_and])
theorem Nj:HK aP 111 fT:=HK.of (by kernel_rfl) (mJ LO 18)
theorem upX:Go.Proofs.Builder.Extra aP kG:={sizeBuilder:=by kernel_rfl,liesBuilder:=by kernel_rfl,t5:=Tryz.underlying5,a5:=Tryz.isAgg5,z5:=Tryz.sizeOf5,v5:=Tryz.zeroValue5,infoByte:=by kernel_rfl,cellsByte:=by kernel_rfl,sizeByte:=by kernel_rfl,neB5:=by decide}

end Go.Proofs.YtmogpgcfognefaaGreatDoor

