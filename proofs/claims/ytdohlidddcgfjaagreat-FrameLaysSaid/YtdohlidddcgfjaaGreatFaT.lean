/- cT of this claim: T. -/
import Derived.Test.YtdohlidddcgfjaaGreatFaD
import Derived.Test.YtdohlidddcgfjaaGreatProg
import Derived.Test.YtdohlidddcgfjaaGreatFaS
import Derived.Test.YtdohlidddcgfjaaGreatFaV3
import Derived.KernelRfl
set_option linter.all false
namespace Go.Proofs.YtdohlidddcgfjaaGreat
open Go
noncomputable abbrev ba:=Tryz.prog
def cR:= @Tryz.underlying69
def gV:= @Tryz.underlying37
def ov:= @Tryz.underlying3
def ji:= @Tryz.underlying68
def jh:= @Tryz.underlying82
def jR:= @Tryz.underlying85
def kV:= @Tryz.underlying5
def nV:= @Tryz.underlying27
def pr:= @Tryz.underlying86
def pY:= @Tryz.underlying102
def pS:= @Tryz.underlying22
def pR:= @Tryz.underlying87
def rN:= @Tryz.underlying74
def vc:= @Tryz.underlying26
def Ae:= @Tryz.underlying169
def Ad:= @Tryz.underlying9
def Ci:= @Tryz.underlying133
def DF:= @Tryz.underlying4
def DE:= @Tryz.underlying152
def E0:= @Tryz.underlying25
def zG:= @Tryz.underlying2
def AN:= @Tryz.underlying209

theorem mixed:Tryz.prog.follows .mixedOrders=true:=by kernel_rfl
theorem Iy:TI ba 2 1 8 false [.int .i64 0]:=⟨by kernel_rfl,by kernel_rfl⟩
theorem bp:TI ba 3 1 8 false [.int .i64 0]:=⟨by kernel_rfl,by kernel_rfl⟩
theorem As:TI ba 4 1 1 false [.bool false]:=⟨by kernel_rfl,by kernel_rfl⟩
theorem iv:TI ba 5 1 1 false [.int .u8 0]:=⟨by kernel_rfl,by kernel_rfl⟩
theorem JD:TI ba 9 1 16 false [.string ⟨#[]⟩]:=⟨by kernel_rfl,by kernel_rfl⟩
theorem tA:TI ba 22 1 24 false [.slice none 0 0]:=⟨by kernel_rfl,by kernel_rfl⟩
theorem y0:TI ba 24 1 24 true [.slice none 0 0]:=⟨by kernel_rfl,by kernel_rfl⟩
theorem oy:TI ba 25 1 4 false [.int .u32 0]:=⟨by kernel_rfl,by kernel_rfl⟩
theorem jZ:TI ba 26 1 8 false [.int .u64 0]:=⟨by kernel_rfl,by kernel_rfl⟩
theorem xW:TI ba 27 1 24 false [.slice none 0 0]:=⟨by kernel_rfl,by kernel_rfl⟩
theorem Na:TI ba 29 3 40 true [.slice none 0 0,.bool false,.int .u64 0]:=⟨by kernel_rfl,by kernel_rfl⟩
theorem xV:TI ba 31 7 72 true [.int .i64 0,.int .u32 0,.int .u64 0,.int .u64 0,.slice none 0 0,.bool false,.int .u64 0]:=⟨by kernel_rfl,by kernel_rfl⟩
theorem yZ:TI ba 32 1 8 false [.int .i64 0]:=⟨by kernel_rfl,by kernel_rfl⟩
theorem lk:TI ba 34 15 152 true [.int .i64 0,.int .i64 0,.int .i64 0,.int .i64 0,.int .i64 0,.int .i64 0,.slice none 0 0,.int .i64 0,.int .u32 0,.int .u64 0,.int .u64 0,.slice none 0 0,.bool false,.int .u64 0,.int .i64 0]:=⟨by kernel_rfl,by kernel_rfl⟩
theorem vq:TI ba 37 1 24 false [.slice none 0 0]:=⟨by kernel_rfl,by kernel_rfl⟩
theorem UP:TI ba 60 1 24 true [.slice none 0 0]:=⟨by kernel_rfl,by kernel_rfl⟩
theorem Su:TI ba 62 6 48 true (List.replicate 6 (.int .i64 0)):=⟨by kernel_rfl,by kernel_rfl⟩
theorem ox:TI ba 68 1 24 false [.slice none 0 0]:=⟨by kernel_rfl,by kernel_rfl⟩
theorem bV:TI ba 69 1 24 false [.slice none 0 0]:=⟨by kernel_rfl,by kernel_rfl⟩
theorem ml:TI ba 71 4 64 true [.slice none 0 0,.int .i64 0,.int .i64 0,.slice none 0 0]:=⟨by kernel_rfl,by kernel_rfl⟩
theorem M9:TI ba 74 1 24 false [.slice none 0 0]:=⟨by kernel_rfl,by kernel_rfl⟩
theorem lN:TI ba 82 1 24 false [.slice none 0 0]:=⟨by kernel_rfl,by kernel_rfl⟩
theorem fv:TI ba 84 1 24 true [.slice none 0 0]:=⟨by kernel_rfl,by kernel_rfl⟩
theorem nd:TI ba 85 1 24 false [.slice none 0 0]:=⟨by kernel_rfl,by kernel_rfl⟩
theorem u4:TI ba 86 1 24 false [.slice none 0 0]:=⟨by kernel_rfl,by kernel_rfl⟩
theorem sv:TI ba 87 1 24 false [.slice none 0 0]:=⟨by kernel_rfl,by kernel_rfl⟩
theorem ej:TI ba 89 12 192 true [.int .i64 0,.int .i64 0,.int .i64 0,.int .i64 0,.slice none 0 0,.bool false,.slice none 0 0,.slice none 0 0,.slice none 0 0,.slice none 0 0,.slice none 0 0,.int .i64 0]:=⟨by kernel_rfl,by kernel_rfl⟩
theorem Cp:TI ba 93 1 24 true [.slice none 0 0]:=⟨by kernel_rfl,by kernel_rfl⟩
theorem pV:TI ba 102 1 24 false [.slice none 0 0]:=⟨by kernel_rfl,by kernel_rfl⟩
theorem ft:TI ba 104 4 40 true [.int .i64 0,.int .i64 0,.int .u64 0,.string ⟨#[]⟩]:=⟨by kernel_rfl,by kernel_rfl⟩
theorem pU:TI ba 113 2 16 true [.int .i64 0,.bool false]:=⟨by kernel_rfl,by kernel_rfl⟩
theorem fE:TI ba 115 2 32 true [.int .i64 0,.slice none 0 0]:=⟨by kernel_rfl,by kernel_rfl⟩
theorem Ln:TI ba 120 1 8 false [.nilFunc]:=⟨by kernel_rfl,by kernel_rfl⟩
theorem CW:TI ba 152 256 1024 true (List.replicate 256 (.int .u32 0)):=⟨by kernel_rfl,by kernel_rfl⟩
theorem eb:TI ba 160 8 72 true [.int .i64 0,.int .i64 0,.int .i64 0,.int .i64 0,.int .i64 0,.int .i64 0,.int .u64 0,.string ⟨#[]⟩]:=⟨by kernel_rfl,by kernel_rfl⟩
theorem AX:TI ba 166 1 8 false [.pointer none]:=⟨by kernel_rfl,by kernel_rfl⟩
theorem Sv:TI ba 168 18 336 true [.slice none 0 0,.slice none 0 0,.slice none 0 0,.int .i64 0,.int .i64 0,.int .i64 0,.int .i64 0,.slice none 0 0,.bool false,.slice none 0 0,.slice none 0 0,.slice none 0 0,.slice none 0 0,.slice none 0 0,.int .i64 0,.slice none 0 0,.slice none 0 0,.slice none 0 0]:=⟨by kernel_rfl,by kernel_rfl⟩
theorem wY:TI ba 209 2 16 true (List.replicate 2 (.int .i64 0)):=⟨by kernel_rfl,by kernel_rfl⟩
theorem lE:cj ba 24 0=some (0,1):=by kernel_rfl
theorem pL:cj ba 29 0=some (0,1):=by kernel_rfl
theorem qq:cj ba 29 1=some (1,1):=by kernel_rfl
theorem qp:cj ba 29 2=some (2,1):=by kernel_rfl
theorem uB:cj ba 31 0=some (0,1):=by kernel_rfl
theorem uA:cj ba 31 1=some (1,1):=by kernel_rfl
theorem o9:cj ba 31 2=some (2,1):=by kernel_rfl
theorem rh:cj ba 31 3=some (3,1):=by kernel_rfl
theorem iI:cj ba 31 4=some (4,3):=by kernel_rfl
theorem pK:cj ba 34 0=some (0,1):=by kernel_rfl
theorem sj:cj ba 34 1=some (1,1):=by kernel_rfl
theorem si:cj ba 34 2=some (2,1):=by kernel_rfl
theorem rg:cj ba 34 3=some (3,1):=by kernel_rfl
theorem pJ:cj ba 34 4=some (4,1):=by kernel_rfl
theorem qo:cj ba 34 5=some (5,1):=by kernel_rfl
theorem rf:cj ba 34 6=some (6,1):=by kernel_rfl
theorem pI:cj ba 34 7=some (7,7):=by kernel_rfl
theorem qn:cj ba 34 8=some (14,1):=by kernel_rfl
theorem nS:cj ba 60 0=some (0,1):=by kernel_rfl
theorem re:cj ba 71 0=some (0,1):=by kernel_rfl
theorem tm:cj ba 71 1=some (1,1):=by kernel_rfl
theorem tk:cj ba 71 2=some (2,1):=by kernel_rfl
theorem qm:cj ba 71 3=some (3,1):=by kernel_rfl
theorem fd:cj ba 84 0=some (0,1):=by kernel_rfl
theorem eJ:cj ba 89 0=some (0,1):=by kernel_rfl
theorem lh:cj ba 89 1=some (1,1):=by kernel_rfl
theorem m3:cj ba 89 2=some (2,1):=by kernel_rfl
theorem oA:cj ba 89 3=some (3,1):=by kernel_rfl
theorem iH:cj ba 89 4=some (4,1):=by kernel_rfl
theorem vW:cj ba 89 5=some (5,1):=by kernel_rfl
theorem o8:cj ba 89 6=some (6,1):=by kernel_rfl
theorem iw:cj ba 89 7=some (7,1):=by kernel_rfl
theorem fM:cj ba 89 8=some (8,1):=by kernel_rfl
theorem m2:cj ba 89 9=some (9,1):=by kernel_rfl
theorem iA:cj ba 89 10=some (10,1):=by kernel_rfl
theorem oS:cj ba 89 11=some (11,1):=by kernel_rfl
theorem m1:cj ba 93 0=some (0,1):=by kernel_rfl
theorem nc:cj ba 104 0=some (0,1):=by kernel_rfl
theorem ou:cj ba 104 1=some (1,1):=by kernel_rfl
theorem wD:cj ba 104 2=some (2,1):=by kernel_rfl
theorem oT:cj ba 104 3=some (3,1):=by kernel_rfl
theorem wC:cj ba 113 0=some (0,1):=by kernel_rfl
theorem IZ:cj ba 113 1=some (1,1):=by kernel_rfl
theorem ie:cj ba 115 0=some (0,1):=by kernel_rfl
theorem md:cj ba 115 1=some (1,1):=by kernel_rfl
theorem iU:cj ba 160 0=some (0,1):=by kernel_rfl
theorem qH:cj ba 160 1=some (1,1):=by kernel_rfl
theorem pN:cj ba 160 2=some (2,1):=by kernel_rfl
theorem na:cj ba 160 3=some (3,1):=by kernel_rfl
theorem pM:cj ba 160 4=some (4,4):=by kernel_rfl
theorem Er:cj ba 168 0=some (0,1):=by kernel_rfl
theorem AC:cj ba 168 1=some (1,1):=by kernel_rfl
theorem rD:cj ba 168 2=some (2,1):=by kernel_rfl
theorem gH:cj ba 168 3=some (3,12):=by kernel_rfl
theorem iT:cj ba 168 4=some (15,1):=by kernel_rfl
theorem yC:cj ba 168 5=some (16,1):=by kernel_rfl
theorem fK:cj ba 168 6=some (17,1):=by kernel_rfl
theorem UX:mv ba 24=some [(0,1)]:=by kernel_rfl
theorem UW:mv ba 29=some [(0,1),(1,1),(2,1)]:=by kernel_rfl
theorem UV:mv ba 31=some [(0,1),(1,1),(2,1),(3,1),(4,3)]:=by kernel_rfl
theorem Kk:mv ba 34=some [(0,1),(1,1),(2,1),(3,1),(4,1),(5,1),(6,1),(7,7),(14,1)]:=by kernel_rfl
theorem UU:mv ba 60=some [(0,1)]:=by kernel_rfl
theorem SS:mv ba 89=some [(0,1),(1,1),(2,1),(3,1),(4,1),(5,1),(6,1),(7,1),(8,1),(9,1),(10,1),(11,1)]:=by kernel_rfl
theorem SR:mv ba 93=some [(0,1)]:=by kernel_rfl
theorem Dm:mv ba 104=some [(0,1),(1,1),(2,1),(3,1)]:=by kernel_rfl
theorem PA:mv ba 160=some [(0,1),(1,1),(2,1),(3,1),(4,4)]:=by kernel_rfl
theorem ST:mv ba 168=some [(0,1),(1,1),(2,1),(3,12),(15,1),(16,1),(17,1)]:=by kernel_rfl
theorem VS:an ba 10=true:=by kernel_rfl
theorem Uz:an ba 11=true:=by kernel_rfl
theorem RS:an ba 12=true:=by kernel_rfl
theorem VR:an ba 13=true:=by kernel_rfl
theorem Kw:an ba 14=true:=by kernel_rfl
theorem MC:an ba 15=true:=by kernel_rfl
theorem VQ:an ba 16=true:=by kernel_rfl
theorem T4:an ba 17=true:=by kernel_rfl
theorem TT:an ba 18=true:=by kernel_rfl
theorem VP:an ba 19=true:=by kernel_rfl
theorem VO:an ba 21=true:=by kernel_rfl
theorem VM:an ba 23=true:=by kernel_rfl
theorem VL:an ba 24=true:=by kernel_rfl
theorem VK:an ba 27=true:=by kernel_rfl
theorem VJ:an ba 28=true:=by kernel_rfl
theorem VI:an ba 29=true:=by kernel_rfl
theorem VH:an ba 30=true:=by kernel_rfl
theorem VG:an ba 31=true:=by kernel_rfl
theorem VF:an ba 32=true:=by kernel_rfl
theorem VD:an ba 33=true:=by kernel_rfl
theorem VC:an ba 34=true:=by kernel_rfl
theorem GI:an ba 35=true:=by kernel_rfl
theorem O9:an ba 36=true:=by kernel_rfl
theorem VB:an ba 37=true:=by kernel_rfl
theorem Kv:an ba 38=true:=by kernel_rfl
theorem VA:an ba 39=true:=by kernel_rfl
theorem Vz:an ba 40=true:=by kernel_rfl
theorem Vy:an ba 41=true:=by kernel_rfl
theorem Vx:an ba 42=true:=by kernel_rfl
theorem RR:an ba 46=true:=by kernel_rfl
theorem Vw:an ba 47=true:=by kernel_rfl
theorem RQ:an ba 48=true:=by kernel_rfl
theorem Vv:an ba 49=true:=by kernel_rfl
theorem Vu:an ba 54=true:=by kernel_rfl
theorem Vt:an ba 55=true:=by kernel_rfl
theorem Vs:an ba 56=true:=by kernel_rfl
theorem Vr:an ba 57=true:=by kernel_rfl
theorem Vq:an ba 58=true:=by kernel_rfl
theorem u6:an ba 59=true:=by kernel_rfl
theorem Vp:an ba 60=true:=by kernel_rfl
theorem O8:an ba 61=true:=by kernel_rfl
theorem S8:an ba 62=true:=by kernel_rfl
theorem Vo:an ba 63=true:=by kernel_rfl
theorem S7:an ba 64=true:=by kernel_rfl
theorem Vn:an ba 65=true:=by kernel_rfl
theorem RP:an ba 66=true:=by kernel_rfl
theorem Vm:an ba 67=true:=by kernel_rfl
theorem Vl:an ba 68=true:=by kernel_rfl
theorem RO:an ba 69=true:=by kernel_rfl
theorem Vk:an ba 70=true:=by kernel_rfl
theorem Vj:an ba 71=true:=by kernel_rfl
theorem Vi:an ba 72=true:=by kernel_rfl
theorem Vh:an ba 73=true:=by kernel_rfl
theorem Vg:an ba 74=true:=by kernel_rfl
theorem Vf:an ba 75=true:=by kernel_rfl
theorem Ve:an ba 76=true:=by kernel_rfl
theorem Vd:an ba 77=true:=by kernel_rfl
theorem Vc:an ba 78=true:=by kernel_rfl
theorem Vb:an ba 79=true:=by kernel_rfl
theorem RN:an ba 80=true:=by kernel_rfl
theorem Va:an ba 81=true:=by kernel_rfl
theorem U9:an ba 82=true:=by kernel_rfl
theorem RM:an ba 83=true:=by kernel_rfl
theorem S6:an ba 84=true:=by kernel_rfl
theorem U8:an ba 85=true:=by kernel_rfl
theorem U7:an ba 86=true:=by kernel_rfl
theorem RL:an ba 87=true:=by kernel_rfl
theorem U6:an ba 88=true:=by kernel_rfl
theorem U5:an ba 89=true:=by kernel_rfl
theorem RK:an ba 90=true:=by kernel_rfl
theorem Mx:an ba 91=true:=by kernel_rfl
theorem U4:an ba 92=true:=by kernel_rfl
theorem U3:an ba 93=true:=by kernel_rfl
theorem RJ:an ba 94=true:=by kernel_rfl
theorem U2:an ba 95=true:=by kernel_rfl
theorem U1:an ba 96=true:=by kernel_rfl
theorem Jh:an ba 103=true:=by kernel_rfl
theorem UA:an ba 104=true:=by kernel_rfl
theorem Uy:an ba 112=true:=by kernel_rfl
theorem Ux:an ba 113=true:=by kernel_rfl
theorem Uw:an ba 114=true:=by kernel_rfl
theorem Uv:an ba 115=true:=by kernel_rfl
theorem Dx:an ba 116=true:=by kernel_rfl
theorem PO:an ba 117=true:=by kernel_rfl
theorem Uu:an ba 118=true:=by kernel_rfl
theorem Ut:an ba 119=true:=by kernel_rfl
theorem Us:an ba 120=true:=by kernel_rfl
theorem Ur:an ba 121=true:=by kernel_rfl
theorem Uq:an ba 122=true:=by kernel_rfl
theorem MG:an ba 123=true:=by kernel_rfl
theorem PN:an ba 124=true:=by kernel_rfl
theorem Up:an ba 125=true:=by kernel_rfl
theorem Uo:an ba 126=true:=by kernel_rfl
theorem Un:an ba 127=true:=by kernel_rfl
theorem MF:an ba 128=true:=by kernel_rfl
theorem Um:an ba 129=true:=by kernel_rfl
theorem Jg:an ba 130=true:=by kernel_rfl
theorem Ul:an ba 131=true:=by kernel_rfl
theorem Jf:an ba 132=true:=by kernel_rfl
theorem Uk:an ba 133=true:=by kernel_rfl
theorem Uj:an ba 134=true:=by kernel_rfl
theorem ME:an ba 135=true:=by kernel_rfl
theorem MD:an ba 142=true:=by kernel_rfl
theorem Ui:an ba 143=true:=by kernel_rfl
theorem Uh:an ba 154=true:=by kernel_rfl
theorem Ug:an ba 155=true:=by kernel_rfl
theorem Uf:an ba 156=true:=by kernel_rfl
theorem Ue:an ba 157=true:=by kernel_rfl
theorem Ud:an ba 158=true:=by kernel_rfl
theorem PM:an ba 159=true:=by kernel_rfl
theorem Uc:an ba 160=true:=by kernel_rfl
theorem Ub:an ba 161=true:=by kernel_rfl
theorem MB:an ba 162=true:=by kernel_rfl
theorem Ua:an ba 163=true:=by kernel_rfl
theorem T9:an ba 164=true:=by kernel_rfl
theorem T8:an ba 165=true:=by kernel_rfl
theorem T7:an ba 166=true:=by kernel_rfl
theorem PL:an ba 167=true:=by kernel_rfl
theorem T6:an ba 168=true:=by kernel_rfl
theorem T5:an ba 169=true:=by kernel_rfl
theorem T0:an ba 170=true:=by kernel_rfl
theorem TZ:an ba 171=true:=by kernel_rfl
theorem TY:an ba 172=true:=by kernel_rfl
theorem TX:an ba 173=true:=by kernel_rfl
theorem TW:an ba 174=true:=by kernel_rfl
theorem TV:an ba 175=true:=by kernel_rfl
theorem TU:an ba 176=true:=by kernel_rfl
theorem PK:an ba 177=true:=by kernel_rfl
theorem PJ:an ba 178=true:=by kernel_rfl
theorem Je:an ba 179=true:=by kernel_rfl
theorem TR:an ba 180=true:=by kernel_rfl
theorem TQ:an ba 197=true:=by kernel_rfl
theorem TP:an ba 198=true:=by kernel_rfl
theorem TO:an ba 199=true:=by kernel_rfl
theorem TN:an ba 200=true:=by kernel_rfl
theorem TM:an ba 201=true:=by kernel_rfl
theorem TL:an ba 202=true:=by kernel_rfl
theorem TK:an ba 203=true:=by kernel_rfl
theorem TJ:an ba 204=true:=by kernel_rfl
theorem PI:an ba 205=true:=by kernel_rfl
theorem Jd:an ba 206=true:=by kernel_rfl
theorem TH:an ba 207=true:=by kernel_rfl
theorem TG:an ba 208=true:=by kernel_rfl
theorem TF:an ba 209=true:=by kernel_rfl
theorem MA:an ba 210=true:=by kernel_rfl
theorem PH:an ba 211=true:=by kernel_rfl
theorem TE:an ba 212=true:=by kernel_rfl
theorem Mz:an ba 213=true:=by kernel_rfl
theorem TD:an ba 227=true:=by kernel_rfl
theorem TC:an ba 228=true:=by kernel_rfl
theorem TB:an ba 229=true:=by kernel_rfl
theorem TA:an ba 230=true:=by kernel_rfl
theorem Tz:an ba 231=true:=by kernel_rfl
theorem Tx:an ba 232=true:=by kernel_rfl
theorem PG:an ba 233=true:=by kernel_rfl
theorem Tw:an ba 234=true:=by kernel_rfl
theorem Tv:an ba 235=true:=by kernel_rfl
theorem Tu:an ba 236=true:=by kernel_rfl
theorem Tt:an ba 237=true:=by kernel_rfl
theorem Ts:an ba 238=true:=by kernel_rfl
theorem Tq:an ba 239=true:=by kernel_rfl
theorem Tp:an ba 240=true:=by kernel_rfl
theorem Tn:an ba 241=true:=by kernel_rfl
theorem Tm:an ba 247=true:=by kernel_rfl
theorem Tl:an ba 248=true:=by kernel_rfl
theorem Tk:an ba 249=true:=by kernel_rfl
theorem Tj:an ba 250=true:=by kernel_rfl
theorem Ti:an ba 251=true:=by kernel_rfl
theorem Th:an ba 252=true:=by kernel_rfl
theorem Tg:an ba 253=true:=by kernel_rfl
theorem PF:an ba 254=true:=by kernel_rfl
theorem My:an ba 255=true:=by kernel_rfl
theorem Jc:an ba 256=true:=by kernel_rfl
theorem Tf:an ba 258=true:=by kernel_rfl
theorem Te:an ba 259=true:=by kernel_rfl
theorem Td:an ba 260=true:=by kernel_rfl
theorem Tc:an ba 263=true:=by kernel_rfl
theorem Tb:an ba 264=true:=by kernel_rfl
theorem Ta:an ba 265=true:=by kernel_rfl
theorem S9:an ba 277=true:=by kernel_rfl
theorem R9:ZV ba 132 (.nilFunc):=(show(Tryz.prog.info? 132).bind (fun i=>i.zero)=some (.nilFunc) by kernel_rfl)
theorem R8:ZV ba 172 (.nilFunc):=(show(Tryz.prog.info? 172).bind (fun i=>i.zero)=some (.nilFunc) by kernel_rfl)
theorem UZ:G0 ba 62 (oz (rI .i64) 6):=G0.of (by kernel_rfl) (jG (I9 (n:=1) Tryz.underlying62 bp rfl rfl (qI (n:=0) ov)) 18)
theorem Mu:ko ba 104 bF 2:=xA (n:=1) (fs:=[(3,0,false),(2,1,false),(26,2,false),(9,3,false)]) (by kernel_rfl) (by kernel_rfl) rfl (DA.cons bp rfl rfl jB (jG (qI (n:=0) ov) 0) (DA.cons Iy rfl rfl jA (jG (qI (n:=0) zG) 0) (DA.cons jZ rfl rfl ql (jG (qI (n:=0) vc) 0) (DA.cons JD rfl rfl jz (jG (O4 (n:=0) Ad) 0) DA.nil)))) (fun x y=>by cases x;cases y;simp [Bool.decide_and])
theorem zT:G0 ba 104 bF:=G0.of (by kernel_rfl) (jG Mu 18)
theorem RH:ko ba 113 iY 2:=xA (n:=1) (fs:=[(3,0,false),(4,1,false)]) (by kernel_rfl) (by kernel_rfl) rfl (DA.cons bp rfl rfl sh (jG (qI (n:=0) ov) 0) (DA.cons As rfl rfl BG (jG (Mt (n:=0) DF) 0) DA.nil)) (fun x y=>by cases x;cases y;simp [Bool.decide_and])
theorem PE:G0 ba 113 iY:=G0.of (by kernel_rfl) (jG RH 18)
theorem RF:ko ba 160 bG 3:=xA (n:=2) (fs:=[(3,0,false),(3,1,false),(3,2,false),(3,3,false),(104,4,false)]) (by kernel_rfl) (by kernel_rfl) rfl (DA.cons bp rfl rfl eo (jG (qI (n:=0) ov) 1) (DA.cons bp rfl rfl nR (jG (qI (n:=0) ov) 1) (DA.cons bp rfl rfl mb (jG (qI (n:=0) ov) 1) (DA.cons bp rfl rfl gO (jG (qI (n:=0) ov) 1) (DA.cons ft rfl rfl jC (jG Mu 0) DA.nil))))) (fun x y=>by cases x;cases y;simp [Bool.decide_and])
theorem PD:G0 ba 160 bG:=G0.of (by kernel_rfl) (jG RF 17)
theorem PC:G0 ba 209 (oz (rI .i64) 2):=G0.of (by kernel_rfl) (jG (I9 (n:=1) AN bp rfl rfl (qI (n:=0) ov)) 18)

end Go.Proofs.YtdohlidddcgfjaaGreat

