/- cR of this claim: T. -/
import Derived.Test.YtnmjbolollcokaaGreatDoorRcD
import Derived.Test.YtnmjbolollcokaaGreatDoorProg
import Derived.Test.YtnmjbolollcokaaGreatDoorRcS
import Derived.Test.YtnmjbolollcokaaGreatDoorRcV4
import Derived.Shelf.Strings.CaseAny
import Derived.KernelRfl
set_option linter.all false
namespace Go.Proofs.YtnmjbolollcokaaGreatDoor
open Go
noncomputable abbrev bc:=Tryz.prog
def d8:= @Tryz.underlying42
def jN:= @Tryz.underlying140
def kV:= @Tryz.underlying9
def ly:= @Tryz.underlying22
def l8:= @Tryz.underlying65
def pU:= @Tryz.underlying3
def rZ:= @Tryz.underlying31
def rY:= @Tryz.underlying69
def rX:= @Tryz.underlying68
def rW:= @Tryz.underlying89
def vd:= @Tryz.underlying81
def zC:= @Tryz.underlying25
def EL:= @Tryz.underlying139
def EK:= @Tryz.underlying224
def yl:= @Tryz.underlying70
def Dw:= @Tryz.underlying141

theorem mixed:Tryz.prog.follows .mixedOrders=true:=by kernel_rfl
theorem Tq:TI bc 2 1 8 false [.int .i64 0]:=⟨by kernel_rfl,by kernel_rfl⟩
theorem ce:TI bc 3 1 8 false [.int .i64 0]:=⟨by kernel_rfl,by kernel_rfl⟩
theorem JS:TI bc 4 1 1 false [.bool false]:=⟨by kernel_rfl,by kernel_rfl⟩
theorem Io:TI bc 9 1 16 false [.string ⟨#[]⟩]:=⟨by kernel_rfl,by kernel_rfl⟩
theorem pe:TI bc 22 1 24 false [.slice none 0 0]:=⟨by kernel_rfl,by kernel_rfl⟩
theorem pc:TI bc 24 1 24 true [.slice none 0 0]:=⟨by kernel_rfl,by kernel_rfl⟩
theorem Gs:TI bc 25 1 24 false [.slice none 0 0]:=⟨by kernel_rfl,by kernel_rfl⟩
theorem ET:TI bc 27 1 24 true [.slice none 0 0]:=⟨by kernel_rfl,by kernel_rfl⟩
theorem tA:TI bc 31 1 24 false [.slice none 0 0]:=⟨by kernel_rfl,by kernel_rfl⟩
theorem mV:TI bc 33 1 24 true [.slice none 0 0]:=⟨by kernel_rfl,by kernel_rfl⟩
theorem cS:TI bc 42 1 24 false [.slice none 0 0]:=⟨by kernel_rfl,by kernel_rfl⟩
theorem OS:TI bc 46 1 24 false [.slice none 0 0]:=⟨by kernel_rfl,by kernel_rfl⟩
theorem Iq:TI bc 52 3 24 true [.int .i64 0,.int .i64 0,.int .i64 0]:=⟨by kernel_rfl,by kernel_rfl⟩
theorem mR:TI bc 65 1 24 false [.slice none 0 0]:=⟨by kernel_rfl,by kernel_rfl⟩
theorem iG:TI bc 67 1 24 true [.slice none 0 0]:=⟨by kernel_rfl,by kernel_rfl⟩
theorem wQ:TI bc 68 1 24 false [.slice none 0 0]:=⟨by kernel_rfl,by kernel_rfl⟩
theorem xq:TI bc 69 1 24 false [.slice none 0 0]:=⟨by kernel_rfl,by kernel_rfl⟩
theorem Ip:TI bc 70 1 24 false [.slice none 0 0]:=⟨by kernel_rfl,by kernel_rfl⟩
theorem dg:TI bc 72 12 192 true [.int .i64 0,.int .i64 0,.int .i64 0,.int .i64 0,.slice none 0 0,.bool false,.slice none 0 0,.slice none 0 0,.slice none 0 0,.slice none 0 0,.slice none 0 0,.int .i64 0]:=⟨by kernel_rfl,by kernel_rfl⟩
theorem re:TI bc 74 4 64 true [.slice none 0 0,.int .i64 0,.int .i64 0,.slice none 0 0]:=⟨by kernel_rfl,by kernel_rfl⟩
theorem pZ:TI bc 78 2 32 true [.int .i64 0,.slice none 0 0]:=⟨by kernel_rfl,by kernel_rfl⟩
theorem Gr:TI bc 81 1 24 false [.slice none 0 0]:=⟨by kernel_rfl,by kernel_rfl⟩
theorem ud:TI bc 83 3 64 true [.string ⟨#[]⟩,.slice none 0 0,.slice none 0 0]:=⟨by kernel_rfl,by kernel_rfl⟩
theorem pY:TI bc 85 2 24 true [.string ⟨#[]⟩,.int .i64 0]:=⟨by kernel_rfl,by kernel_rfl⟩
theorem u5:TI bc 89 1 24 false [.slice none 0 0]:=⟨by kernel_rfl,by kernel_rfl⟩
theorem Vt:TI bc 91 4 96 true [.slice none 0 0,.slice none 0 0,.slice none 0 0,.slice none 0 0]:=⟨by kernel_rfl,by kernel_rfl⟩
theorem bv:TI bc 95 4 80 true [.slice none 0 0,.slice none 0 0,.int .i64 0,.slice none 0 0]:=⟨by kernel_rfl,by kernel_rfl⟩
theorem Tw:TI bc 109 1 8 false [.nilFunc]:=⟨by kernel_rfl,by kernel_rfl⟩
theorem jC:TI bc 118 1 8 false [.pointer none]:=⟨by kernel_rfl,by kernel_rfl⟩
theorem Tv:TI bc 123 3 72 true [.slice none 0 0,.slice none 0 0,.slice none 0 0]:=⟨by kernel_rfl,by kernel_rfl⟩
theorem QA:TI bc 126 1 8 false [.int .u64 0]:=⟨by kernel_rfl,by kernel_rfl⟩
theorem uU:TI bc 128 4 40 true [.int .i64 0,.int .i64 0,.int .u64 0,.string ⟨#[]⟩]:=⟨by kernel_rfl,by kernel_rfl⟩
theorem dS:TI bc 130 8 72 true [.int .i64 0,.int .i64 0,.int .i64 0,.int .i64 0,.int .i64 0,.int .i64 0,.int .u64 0,.string ⟨#[]⟩]:=⟨by kernel_rfl,by kernel_rfl⟩
theorem Tt:TI bc 135 1 8 false [.nilFunc]:=⟨by kernel_rfl,by kernel_rfl⟩
theorem DD:TI bc 141 2 16 true (List.replicate 2 (.int .i64 0)):=⟨by kernel_rfl,by kernel_rfl⟩
theorem JT:TI bc 173 2 16 true [.int .i64 0,.bool false]:=⟨by kernel_rfl,by kernel_rfl⟩
theorem Ts:TI bc 186 1 8 false [.nilFunc]:=⟨by kernel_rfl,by kernel_rfl⟩
theorem ME:TI bc 232 2 24 true [.string ⟨#[]⟩,.int .i64 0]:=⟨by kernel_rfl,by kernel_rfl⟩
theorem Tp:TI bc 233 6 72 true [.string ⟨#[]⟩,.int .i64 0,.string ⟨#[]⟩,.int .i64 0,.string ⟨#[]⟩,.int .i64 0]:=⟨by kernel_rfl,by kernel_rfl⟩
theorem pz:ci bc 24 0=some (0,1):=by kernel_rfl
theorem vZ:ci bc 27 0=some (0,1):=by kernel_rfl
theorem lj:ci bc 33 0=some (0,1):=by kernel_rfl
theorem fW:ci bc 67 0=some (0,1):=by kernel_rfl
theorem vY:ci bc 72 0=some (0,1):=by kernel_rfl
theorem jv:ci bc 72 1=some (1,1):=by kernel_rfl
theorem nz:ci bc 72 2=some (2,1):=by kernel_rfl
theorem vX:ci bc 72 3=some (3,1):=by kernel_rfl
theorem tf:ci bc 72 4=some (4,1):=by kernel_rfl
theorem NN:ci bc 72 5=some (5,1):=by kernel_rfl
theorem uM:ci bc 72 6=some (6,1):=by kernel_rfl
theorem qy:ci bc 72 7=some (7,1):=by kernel_rfl
theorem mT:ci bc 72 8=some (8,1):=by kernel_rfl
theorem oI:ci bc 72 9=some (9,1):=by kernel_rfl
theorem uN:ci bc 72 10=some (10,1):=by kernel_rfl
theorem Bx:ci bc 72 11=some (11,1):=by kernel_rfl
theorem FE:ci bc 74 0=some (0,1):=by kernel_rfl
theorem R2:ci bc 74 1=some (1,1):=by kernel_rfl
theorem FD:ci bc 78 0=some (0,1):=by kernel_rfl
theorem Cz:ci bc 78 1=some (1,1):=by kernel_rfl
theorem Je:ci bc 83 0=some (0,1):=by kernel_rfl
theorem vW:ci bc 83 1=some (1,1):=by kernel_rfl
theorem Fz:ci bc 83 2=some (2,1):=by kernel_rfl
theorem NM:ci bc 85 0=some (0,1):=by kernel_rfl
theorem NL:ci bc 85 1=some (1,1):=by kernel_rfl
theorem vV:ci bc 91 0=some (0,1):=by kernel_rfl
theorem R1:ci bc 91 1=some (1,1):=by kernel_rfl
theorem R0:ci bc 91 2=some (2,1):=by kernel_rfl
theorem Jd:ci bc 91 3=some (3,1):=by kernel_rfl
theorem te:ci bc 95 0=some (0,1):=by kernel_rfl
theorem Jc:ci bc 95 1=some (1,1):=by kernel_rfl
theorem rD:ci bc 95 2=some (2,1):=by kernel_rfl
theorem ny:ci bc 95 3=some (3,1):=by kernel_rfl
theorem FG:ci bc 123 0=some (0,1):=by kernel_rfl
theorem lX:ci bc 123 1=some (1,1):=by kernel_rfl
theorem sG:ci bc 123 2=some (2,1):=by kernel_rfl
theorem wH:ci bc 128 0=some (0,1):=by kernel_rfl
theorem By:ci bc 128 1=some (1,1):=by kernel_rfl
theorem Pr:ci bc 128 2=some (2,1):=by kernel_rfl
theorem FF:ci bc 128 3=some (3,1):=by kernel_rfl
theorem kz:ci bc 130 0=some (0,1):=by kernel_rfl
theorem y7:ci bc 130 1=some (1,1):=by kernel_rfl
theorem y6:ci bc 130 2=some (2,1):=by kernel_rfl
theorem oJ:ci bc 130 3=some (3,1):=by kernel_rfl
theorem y5:ci bc 130 4=some (4,4):=by kernel_rfl
theorem Ki:ci bc 173 0=some (0,1):=by kernel_rfl
theorem Pq:ci bc 232 0=some (0,1):=by kernel_rfl
theorem Pp:ci bc 232 1=some (1,1):=by kernel_rfl
theorem RY:iL bc 24=some [(0,1)]:=by kernel_rfl
theorem VJ:iL bc 27=some [(0,1)]:=by kernel_rfl
theorem Po:iL bc 33=some [(0,1)]:=by kernel_rfl
theorem VI:iL bc 52=some [(0,1),(1,1),(2,1)]:=by kernel_rfl
theorem RX:iL bc 67=some [(0,1)]:=by kernel_rfl
theorem Pn:iL bc 72=some [(0,1),(1,1),(2,1),(3,1),(4,1),(5,1),(6,1),(7,1),(8,1),(9,1),(10,1),(11,1)]:=by kernel_rfl
theorem TK:iL bc 74=some [(0,1),(1,1),(2,1),(3,1)]:=by kernel_rfl
theorem TJ:iL bc 78=some [(0,1),(1,1)]:=by kernel_rfl
theorem TH:iL bc 83=some [(0,1),(1,1),(2,1)]:=by kernel_rfl
theorem RW:iL bc 85=some [(0,1),(1,1)]:=by kernel_rfl
theorem VH:iL bc 91=some [(0,1),(1,1),(2,1),(3,1)]:=by kernel_rfl
theorem RV:iL bc 95=some [(0,1),(1,1),(2,1),(3,1)]:=by kernel_rfl
theorem TL:iL bc 123=some [(0,1),(1,1),(2,1)]:=by kernel_rfl
theorem NJ:iL bc 128=some [(0,1),(1,1),(2,1),(3,1)]:=by kernel_rfl
theorem cb8:ak bc 8=true:=by kernel_rfl
theorem cb9:ak bc 9=true:=by kernel_rfl
theorem Wk:ak bc 10=true:=by kernel_rfl
theorem Vb:ak bc 11=true:=by kernel_rfl
theorem Wj:ak bc 14=true:=by kernel_rfl
theorem Wi:ak bc 15=true:=by kernel_rfl
theorem Wh:ak bc 17=true:=by kernel_rfl
theorem Wg:ak bc 27=true:=by kernel_rfl
theorem Wf:ak bc 29=true:=by kernel_rfl
theorem ST:ak bc 30=true:=by kernel_rfl
theorem We:ak bc 31=true:=by kernel_rfl
theorem Wd:ak bc 32=true:=by kernel_rfl
theorem Wc:ak bc 33=true:=by kernel_rfl
theorem Wb:ak bc 34=true:=by kernel_rfl
theorem LY:ak bc 35=true:=by kernel_rfl
theorem T9:ak bc 36=true:=by kernel_rfl
theorem Wa:ak bc 37=true:=by kernel_rfl
theorem V9:ak bc 38=true:=by kernel_rfl
theorem SS:ak bc 45=true:=by kernel_rfl
theorem T8:ak bc 46=true:=by kernel_rfl
theorem SR:ak bc 47=true:=by kernel_rfl
theorem V8:ak bc 48=true:=by kernel_rfl
theorem V7:ak bc 49=true:=by kernel_rfl
theorem SQ:ak bc 55=true:=by kernel_rfl
theorem HM:ak bc 56=true:=by kernel_rfl
theorem V6:ak bc 58=true:=by kernel_rfl
theorem V5:ak bc 59=true:=by kernel_rfl
theorem V4:ak bc 60=true:=by kernel_rfl
theorem V3:ak bc 61=true:=by kernel_rfl
theorem V2:ak bc 62=true:=by kernel_rfl
theorem SP:ak bc 63=true:=by kernel_rfl
theorem V1:ak bc 64=true:=by kernel_rfl
theorem HK:ak bc 65=true:=by kernel_rfl
theorem V0:ak bc 66=true:=by kernel_rfl
theorem VZ:ak bc 67=true:=by kernel_rfl
theorem VY:ak bc 68=true:=by kernel_rfl
theorem VX:ak bc 69=true:=by kernel_rfl
theorem VW:ak bc 70=true:=by kernel_rfl
theorem VV:ak bc 71=true:=by kernel_rfl
theorem VU:ak bc 72=true:=by kernel_rfl
theorem VT:ak bc 73=true:=by kernel_rfl
theorem VS:ak bc 74=true:=by kernel_rfl
theorem VR:ak bc 81=true:=by kernel_rfl
theorem SO:ak bc 82=true:=by kernel_rfl
theorem VQ:ak bc 83=true:=by kernel_rfl
theorem VP:ak bc 93=true:=by kernel_rfl
theorem SN:ak bc 96=true:=by kernel_rfl
theorem VO:ak bc 97=true:=by kernel_rfl
theorem VN:ak bc 98=true:=by kernel_rfl
theorem VM:ak bc 99=true:=by kernel_rfl
theorem QU:ak bc 100=true:=by kernel_rfl
theorem Vg:ak bc 101=true:=by kernel_rfl
theorem Vf:ak bc 102=true:=by kernel_rfl
theorem Kw:ak bc 103=true:=by kernel_rfl
theorem Ve:ak bc 104=true:=by kernel_rfl
theorem Vd:ak bc 105=true:=by kernel_rfl
theorem sL:ak bc 106=true:=by kernel_rfl
theorem AX:ak bc 107=true:=by kernel_rfl
theorem Ok:ak bc 108=true:=by kernel_rfl
theorem Vc:ak bc 109=true:=by kernel_rfl
theorem QT:ak bc 110=true:=by kernel_rfl
theorem Va:ak bc 111=true:=by kernel_rfl
theorem U4:ak bc 125=true:=by kernel_rfl
theorem U0:ak bc 126=true:=by kernel_rfl
theorem QS:ak bc 127=true:=by kernel_rfl
theorem UZ:ak bc 143=true:=by kernel_rfl
theorem UY:ak bc 144=true:=by kernel_rfl
theorem UX:ak bc 145=true:=by kernel_rfl
theorem UW:ak bc 147=true:=by kernel_rfl
theorem UV:ak bc 148=true:=by kernel_rfl
theorem UU:ak bc 149=true:=by kernel_rfl
theorem UT:ak bc 150=true:=by kernel_rfl
theorem US:ak bc 151=true:=by kernel_rfl
theorem UR:ak bc 152=true:=by kernel_rfl
theorem UQ:ak bc 153=true:=by kernel_rfl
theorem UP:ak bc 154=true:=by kernel_rfl
theorem UO:ak bc 155=true:=by kernel_rfl
theorem UN:ak bc 156=true:=by kernel_rfl
theorem UM:ak bc 157=true:=by kernel_rfl
theorem UL:ak bc 158=true:=by kernel_rfl
theorem QR:ak bc 172=true:=by kernel_rfl
theorem UK:ak bc 173=true:=by kernel_rfl
theorem UJ:ak bc 174=true:=by kernel_rfl
theorem UI:ak bc 175=true:=by kernel_rfl
theorem UH:ak bc 176=true:=by kernel_rfl
theorem UG:ak bc 177=true:=by kernel_rfl
theorem UF:ak bc 178=true:=by kernel_rfl
theorem UE:ak bc 179=true:=by kernel_rfl
theorem UD:ak bc 192=true:=by kernel_rfl
theorem UC:ak bc 193=true:=by kernel_rfl
theorem Kv:ak bc 199=true:=by kernel_rfl
theorem UB:ak bc 200=true:=by kernel_rfl
theorem UA:ak bc 201=true:=by kernel_rfl
theorem QQ:ak bc 202=true:=by kernel_rfl
theorem QP:ak bc 203=true:=by kernel_rfl
theorem Uz:ak bc 204=true:=by kernel_rfl
theorem Uy:ak bc 205=true:=by kernel_rfl
theorem Ux:ak bc 206=true:=by kernel_rfl
theorem QO:ak bc 207=true:=by kernel_rfl
theorem Uw:ak bc 208=true:=by kernel_rfl
theorem Uv:ak bc 209=true:=by kernel_rfl
theorem Oj:ak bc 210=true:=by kernel_rfl
theorem Uu:ak bc 211=true:=by kernel_rfl
theorem Ut:ak bc 212=true:=by kernel_rfl
theorem Us:ak bc 213=true:=by kernel_rfl
theorem Ur:ak bc 218=true:=by kernel_rfl
theorem Uq:ak bc 225=true:=by kernel_rfl
theorem Up:ak bc 226=true:=by kernel_rfl
theorem Uo:ak bc 234=true:=by kernel_rfl
theorem QN:ak bc 235=true:=by kernel_rfl
theorem Un:ak bc 236=true:=by kernel_rfl
theorem Um:ak bc 237=true:=by kernel_rfl
theorem Ul:ak bc 238=true:=by kernel_rfl
theorem Uk:ak bc 239=true:=by kernel_rfl
theorem Uj:ak bc 240=true:=by kernel_rfl
theorem Ui:ak bc 241=true:=by kernel_rfl
theorem Uh:ak bc 242=true:=by kernel_rfl
theorem Ug:ak bc 243=true:=by kernel_rfl
theorem Uf:ak bc 254=true:=by kernel_rfl
theorem Ue:ak bc 255=true:=by kernel_rfl
theorem Ud:ak bc 256=true:=by kernel_rfl
theorem Uc:ak bc 257=true:=by kernel_rfl
theorem Ub:ak bc 265=true:=by kernel_rfl
theorem Ua:ak bc 273=true:=by kernel_rfl
theorem S7:ZV bc 138 (.nilFunc):=(show(Tryz.prog.info? 138).bind (fun i=>i.zero)=some (.nilFunc) by kernel_rfl)
theorem S6:ZV bc 223 (.nilFunc):=(show(Tryz.prog.info? 223).bind (fun i=>i.zero)=some (.nilFunc) by kernel_rfl)
theorem SJ:qq bc 128 dV 2:=Jm (n:=1) (fs:=[(3,0,false),(2,1,false),(126,2,false),(9,3,false)]) (by kernel_rfl) (by kernel_rfl) rfl (Oy.cons ce rfl rfl uI (tX (BC (n:=0) pU) 0) (Oy.cons Tq rfl rfl xO (tX (BC (n:=0) Tryz.underlying2) 0) (Oy.cons QA rfl rfl I8 (tX (BC (n:=0) Tryz.underlying126) 0) (Oy.cons Io rfl rfl xN (tX (Qk (n:=0) kV) 0) Oy.nil)))) (fun x y=>by cases x;cases y;simp [Bool.decide_and])
theorem N5:OL bc 128 dV:=OL.of (by kernel_rfl) (tX SJ 18)
theorem T5:OL bc 141 (s5 (rI .i64) 2):=OL.of (by kernel_rfl) (tX (Ql (n:=1) Dw ce rfl rfl (BC (n:=0) pU)) 18)
theorem upX:Go.Proofs.Builder.Extra bc lZ:={sizeBuilder:=by kernel_rfl,liesBuilder:=by kernel_rfl,t5:=Tryz.underlying5,a5:=Tryz.isAgg5,z5:=Tryz.sizeOf5,v5:=Tryz.zeroValue5,infoByte:=by kernel_rfl,cellsByte:=by kernel_rfl,sizeByte:=by kernel_rfl,neB5:=by decide}

end Go.Proofs.YtnmjbolollcokaaGreatDoor

