/- cd of this claim: T. -/
import Derived.Test.YtmogpgcfognefaaGreatDoorNcD
import Derived.Test.YtmogpgcfognefaaGreatDoorProg
import Derived.Test.YtmogpgcfognefaaGreatDoorNcS
import Derived.Test.YtmogpgcfognefaaGreatDoorNcV4
import Derived.Shelf.Strings.CaseAny
import Derived.KernelRfl
set_option linter.all false
namespace Go.Proofs.YtmogpgcfognefaaGreatDoor
open Go
noncomputable abbrev aM:=Tryz.prog
def dd:= @Tryz.underlying29
def iF:= @Tryz.underlying3
def iU:= @Tryz.underlying9
def kE:= @Tryz.underlying43
def mw:= @Tryz.underlying22
def n9:= @Tryz.underlying25
def pw:= @Tryz.underlying38
def pK:= @Tryz.underlying35
def pJ:= @Tryz.underlying46
def ro:= @Tryz.underlying62
def rn:= @Tryz.underlying78
def sL:= @Tryz.underlying51
def vg:= @Tryz.underlying74
def wD:= @Tryz.underlying125
def wC:= @Tryz.underlying166
def xl:= @Tryz.underlying61
def A4:= @Tryz.underlying199
def A3:= @Tryz.underlying238
def A2:= @Tryz.underlying47
def A1:= @Tryz.underlying48
def Gm:= @Tryz.underlying5
def Ci:= @Tryz.underlying85
def zV:= @Tryz.underlying194
def HS:= @Tryz.underlying4
def HR:= @Tryz.underlying75
def E7:= @Tryz.underlying80

theorem mixed:Tryz.prog.follows .mixedOrders=true:=by kernel_rfl
theorem Og:TI aM 2 1 8 false [.int .i64 0]:=⟨by kernel_rfl,by kernel_rfl⟩
theorem bK:TI aM 3 1 8 false [.int .i64 0]:=⟨by kernel_rfl,by kernel_rfl⟩
theorem H5:TI aM 4 1 1 false [.bool false]:=⟨by kernel_rfl,by kernel_rfl⟩
theorem JS:TI aM 5 1 1 false [.int .u8 0]:=⟨by kernel_rfl,by kernel_rfl⟩
theorem Cr:TI aM 9 1 16 false [.string ⟨#[]⟩]:=⟨by kernel_rfl,by kernel_rfl⟩
theorem ql:TI aM 22 1 24 false [.slice none 0 0]:=⟨by kernel_rfl,by kernel_rfl⟩
theorem kl:TI aM 24 1 24 true [.slice none 0 0]:=⟨by kernel_rfl,by kernel_rfl⟩
theorem wI:TI aM 25 1 24 false [.slice none 0 0]:=⟨by kernel_rfl,by kernel_rfl⟩
theorem bZ:TI aM 29 1 24 false [.slice none 0 0]:=⟨by kernel_rfl,by kernel_rfl⟩
theorem jI:TI aM 31 4 64 true [.slice none 0 0,.int .i64 0,.int .i64 0,.slice none 0 0]:=⟨by kernel_rfl,by kernel_rfl⟩
theorem tt:TI aM 35 1 24 false [.slice none 0 0]:=⟨by kernel_rfl,by kernel_rfl⟩
theorem px:TI aM 37 1 24 true [.slice none 0 0]:=⟨by kernel_rfl,by kernel_rfl⟩
theorem zr:TI aM 38 1 24 false [.slice none 0 0]:=⟨by kernel_rfl,by kernel_rfl⟩
theorem kG:TI aM 40 3 64 true [.string ⟨#[]⟩,.slice none 0 0,.slice none 0 0]:=⟨by kernel_rfl,by kernel_rfl⟩
theorem k5:TI aM 42 2 24 true [.string ⟨#[]⟩,.int .i64 0]:=⟨by kernel_rfl,by kernel_rfl⟩
theorem mJ:TI aM 43 1 24 false [.slice none 0 0]:=⟨by kernel_rfl,by kernel_rfl⟩
theorem kV:TI aM 45 1 24 true [.slice none 0 0]:=⟨by kernel_rfl,by kernel_rfl⟩
theorem vl:TI aM 46 1 24 false [.slice none 0 0]:=⟨by kernel_rfl,by kernel_rfl⟩
theorem MS:TI aM 47 1 24 false [.slice none 0 0]:=⟨by kernel_rfl,by kernel_rfl⟩
theorem H4:TI aM 48 1 24 false [.slice none 0 0]:=⟨by kernel_rfl,by kernel_rfl⟩
theorem eM:TI aM 50 12 192 true [.int .i64 0,.int .i64 0,.int .i64 0,.int .i64 0,.slice none 0 0,.bool false,.slice none 0 0,.slice none 0 0,.slice none 0 0,.slice none 0 0,.slice none 0 0,.int .i64 0]:=⟨by kernel_rfl,by kernel_rfl⟩
theorem ec:TI aM 55 2 32 true [.int .i64 0,.slice none 0 0]:=⟨by kernel_rfl,by kernel_rfl⟩
theorem wH:TI aM 61 2 16 true (List.replicate 2 (.int .i64 0)):=⟨by kernel_rfl,by kernel_rfl⟩
theorem zq:TI aM 62 1 24 false [.slice none 0 0]:=⟨by kernel_rfl,by kernel_rfl⟩
theorem Gz:TI aM 74 1 24 false [.slice none 0 0]:=⟨by kernel_rfl,by kernel_rfl⟩
theorem xC:TI aM 78 1 24 false [.slice none 0 0]:=⟨by kernel_rfl,by kernel_rfl⟩
theorem MR:TI aM 80 1 8 false [.int .u64 0]:=⟨by kernel_rfl,by kernel_rfl⟩
theorem kF:TI aM 82 4 40 true [.int .i64 0,.int .i64 0,.int .u64 0,.string ⟨#[]⟩]:=⟨by kernel_rfl,by kernel_rfl⟩
theorem nO:TI aM 85 1 4 false [.int .u32 0]:=⟨by kernel_rfl,by kernel_rfl⟩
theorem jo:TI aM 107 2 32 true [.int .i64 0,.slice none 0 0]:=⟨by kernel_rfl,by kernel_rfl⟩
theorem z6:TI aM 111 2 16 true [.int .i64 0,.bool false]:=⟨by kernel_rfl,by kernel_rfl⟩
theorem sU:TI aM 113 1 8 false [.pointer none]:=⟨by kernel_rfl,by kernel_rfl⟩
theorem xD:TI aM 122 1 8 false [.pointer none]:=⟨by kernel_rfl,by kernel_rfl⟩
theorem OO:TI aM 124 18 336 true [.slice none 0 0,.slice none 0 0,.slice none 0 0,.int .i64 0,.int .i64 0,.int .i64 0,.int .i64 0,.slice none 0 0,.bool false,.slice none 0 0,.slice none 0 0,.slice none 0 0,.slice none 0 0,.slice none 0 0,.int .i64 0,.slice none 0 0,.slice none 0 0,.slice none 0 0]:=⟨by kernel_rfl,by kernel_rfl⟩
theorem dK:TI aM 149 8 72 true [.int .i64 0,.int .i64 0,.int .i64 0,.int .i64 0,.int .i64 0,.int .i64 0,.int .u64 0,.string ⟨#[]⟩]:=⟨by kernel_rfl,by kernel_rfl⟩
theorem Fj:TI aM 161 1 24 false [.slice none 0 0]:=⟨by kernel_rfl,by kernel_rfl⟩
theorem ON:TI aM 163 3 72 true [.slice none 0 0,.slice none 0 0,.slice none 0 0]:=⟨by kernel_rfl,by kernel_rfl⟩
theorem Fi:TI aM 168 1 8 false [.pointer none]:=⟨by kernel_rfl,by kernel_rfl⟩
theorem OM:TI aM 170 17 264 true [.pointer none,.int .i64 0,.int .i64 0,.int .i64 0,.int .i64 0,.slice none 0 0,.bool false,.slice none 0 0,.slice none 0 0,.slice none 0 0,.slice none 0 0,.slice none 0 0,.int .i64 0,.int .i64 0,.slice none 0 0,.int .i64 0,.slice none 0 0]:=⟨by kernel_rfl,by kernel_rfl⟩
theorem OL:TI aM 192 1 8 false [.nilFunc]:=⟨by kernel_rfl,by kernel_rfl⟩
theorem L9:TI aM 194 1 24 false [.slice none 0 0]:=⟨by kernel_rfl,by kernel_rfl⟩
theorem OK:TI aM 196 1 24 true [.slice none 0 0]:=⟨by kernel_rfl,by kernel_rfl⟩
theorem OJ:TI aM 231 1 8 false [.nilFunc]:=⟨by kernel_rfl,by kernel_rfl⟩
theorem zZ:TI aM 238 256 1024 true (List.replicate 256 (.int .u32 0)):=⟨by kernel_rfl,by kernel_rfl⟩
theorem H6:TI aM 270 2 24 true [.string ⟨#[]⟩,.int .i64 0]:=⟨by kernel_rfl,by kernel_rfl⟩
theorem OH:TI aM 271 6 72 true [.string ⟨#[]⟩,.int .i64 0,.string ⟨#[]⟩,.int .i64 0,.string ⟨#[]⟩,.int .i64 0]:=⟨by kernel_rfl,by kernel_rfl⟩
theorem j7:bM aM 24 0=some (0,1):=by kernel_rfl
theorem qK:bM aM 31 0=some (0,1):=by kernel_rfl
theorem tN:bM aM 31 1=some (1,1):=by kernel_rfl
theorem rY:bM aM 31 2=some (2,1):=by kernel_rfl
theorem BE:bM aM 31 3=some (3,1):=by kernel_rfl
theorem lB:bM aM 37 0=some (0,1):=by kernel_rfl
theorem IN:bM aM 40 0=some (0,1):=by kernel_rfl
theorem pD:bM aM 40 1=some (1,1):=by kernel_rfl
theorem tM:bM aM 40 2=some (2,1):=by kernel_rfl
theorem Nr:bM aM 42 0=some (0,1):=by kernel_rfl
theorem BD:bM aM 42 1=some (1,1):=by kernel_rfl
theorem fV:bM aM 45 0=some (0,1):=by kernel_rfl
theorem gN:bM aM 50 0=some (0,1):=by kernel_rfl
theorem rX:bM aM 50 1=some (1,1):=by kernel_rfl
theorem vG:bM aM 50 2=some (2,1):=by kernel_rfl
theorem nE:bM aM 50 3=some (3,1):=by kernel_rfl
theorem oK:bM aM 50 4=some (4,1):=by kernel_rfl
theorem Nq:bM aM 50 5=some (5,1):=by kernel_rfl
theorem yJ:bM aM 50 6=some (6,1):=by kernel_rfl
theorem mg:bM aM 50 7=some (7,1):=by kernel_rfl
theorem mV:bM aM 50 8=some (8,1):=by kernel_rfl
theorem EG:bM aM 50 9=some (9,1):=by kernel_rfl
theorem uM:bM aM 50 10=some (10,1):=by kernel_rfl
theorem uL:bM aM 50 11=some (11,1):=by kernel_rfl
theorem kz:bM aM 55 0=some (0,1):=by kernel_rfl
theorem oJ:bM aM 55 1=some (1,1):=by kernel_rfl
theorem qJ:bM aM 82 0=some (0,1):=by kernel_rfl
theorem yI:bM aM 82 1=some (1,1):=by kernel_rfl
theorem IM:bM aM 82 2=some (2,1):=by kernel_rfl
theorem tL:bM aM 82 3=some (3,1):=by kernel_rfl
theorem lj:bM aM 107 0=some (0,1):=by kernel_rfl
theorem uQ:bM aM 107 1=some (1,1):=by kernel_rfl
theorem FI:bM aM 111 0=some (0,1):=by kernel_rfl
theorem BH:bM aM 124 0=some (0,1):=by kernel_rfl
theorem w8:bM aM 124 1=some (1,1):=by kernel_rfl
theorem nV:bM aM 124 2=some (2,1):=by kernel_rfl
theorem eU:bM aM 124 3=some (3,12):=by kernel_rfl
theorem gc:bM aM 124 4=some (15,1):=by kernel_rfl
theorem uP:bM aM 124 5=some (16,1):=by kernel_rfl
theorem dZ:bM aM 124 6=some (17,1):=by kernel_rfl
theorem iS:bM aM 149 0=some (0,1):=by kernel_rfl
theorem uO:bM aM 149 1=some (1,1):=by kernel_rfl
theorem uN:bM aM 149 2=some (2,1):=by kernel_rfl
theorem mh:bM aM 149 3=some (3,1):=by kernel_rfl
theorem w7:bM aM 149 4=some (4,4):=by kernel_rfl
theorem nc:bM aM 163 0=some (0,1):=by kernel_rfl
theorem BG:bM aM 163 1=some (1,1):=by kernel_rfl
theorem wZ:bM aM 163 2=some (2,1):=by kernel_rfl
theorem FH:bM aM 170 0=some (0,1):=by kernel_rfl
theorem wY:bM aM 170 1=some (1,12):=by kernel_rfl
theorem qL:bM aM 170 2=some (13,2):=by kernel_rfl
theorem BF:bM aM 170 3=some (15,2):=by kernel_rfl
theorem FG:bM aM 196 0=some (0,1):=by kernel_rfl
theorem Kk:bM aM 270 0=some (0,1):=by kernel_rfl
theorem Kj:bM aM 270 1=some (1,1):=by kernel_rfl
theorem No:ie aM 24=some [(0,1)]:=by kernel_rfl
theorem Kf:ie aM 31=some [(0,1),(1,1),(2,1),(3,1)]:=by kernel_rfl
theorem Nn:ie aM 37=some [(0,1)]:=by kernel_rfl
theorem RF:ie aM 40=some [(0,1),(1,1),(2,1)]:=by kernel_rfl
theorem O8:ie aM 42=some [(0,1),(1,1)]:=by kernel_rfl
theorem RE:ie aM 45=some [(0,1)]:=by kernel_rfl
theorem EB:ie aM 50=some [(0,1),(1,1),(2,1),(3,1),(4,1),(5,1),(6,1),(7,1),(8,1),(9,1),(10,1),(11,1)]:=by kernel_rfl
theorem C7:ie aM 55=some [(0,1),(1,1)]:=by kernel_rfl
theorem Nm:ie aM 82=some [(0,1),(1,1),(2,1),(3,1)]:=by kernel_rfl
theorem Pc:ie aM 124=some [(0,1),(1,1),(2,1),(3,12),(15,1),(16,1),(17,1)]:=by kernel_rfl
theorem Pb:ie aM 163=some [(0,1),(1,1),(2,1)]:=by kernel_rfl
theorem Pa:ie aM 170=some [(0,1),(1,12),(13,2),(15,2)]:=by kernel_rfl
theorem O9:ie aM 196=some [(0,1)]:=by kernel_rfl
theorem cb8:aj aM 8=true:=by kernel_rfl
theorem cb9:aj aM 9=true:=by kernel_rfl
theorem Su:aj aM 11=true:=by kernel_rfl
theorem Sr:aj aM 12=true:=by kernel_rfl
theorem QM:aj aM 13=true:=by kernel_rfl
theorem QC:aj aM 15=true:=by kernel_rfl
theorem Sq:aj aM 16=true:=by kernel_rfl
theorem Sp:aj aM 24=true:=by kernel_rfl
theorem So:aj aM 25=true:=by kernel_rfl
theorem Sn:aj aM 26=true:=by kernel_rfl
theorem PF:aj aM 27=true:=by kernel_rfl
theorem Sm:aj aM 32=true:=by kernel_rfl
theorem Sl:aj aM 33=true:=by kernel_rfl
theorem Sk:aj aM 34=true:=by kernel_rfl
theorem Sj:aj aM 35=true:=by kernel_rfl
theorem N6:aj aM 41=true:=by kernel_rfl
theorem PC:aj aM 42=true:=by kernel_rfl
theorem Si:aj aM 43=true:=by kernel_rfl
theorem PB:aj aM 45=true:=by kernel_rfl
theorem Sh:aj aM 46=true:=by kernel_rfl
theorem Sf:aj aM 47=true:=by kernel_rfl
theorem I9:aj aM 48=true:=by kernel_rfl
theorem N5:aj aM 59=true:=by kernel_rfl
theorem Sd:aj aM 60=true:=by kernel_rfl
theorem Sc:aj aM 61=true:=by kernel_rfl
theorem Sb:aj aM 62=true:=by kernel_rfl
theorem Sa:aj aM 63=true:=by kernel_rfl
theorem LQ:aj aM 66=true:=by kernel_rfl
theorem R9:aj aM 67=true:=by kernel_rfl
theorem R8:aj aM 68=true:=by kernel_rfl
theorem R7:aj aM 73=true:=by kernel_rfl
theorem R6:aj aM 74=true:=by kernel_rfl
theorem R5:aj aM 75=true:=by kernel_rfl
theorem PA:aj aM 76=true:=by kernel_rfl
theorem R4:aj aM 77=true:=by kernel_rfl
theorem R3:aj aM 78=true:=by kernel_rfl
theorem RZ:aj aM 79=true:=by kernel_rfl
theorem RY:aj aM 80=true:=by kernel_rfl
theorem RX:aj aM 81=true:=by kernel_rfl
theorem RW:aj aM 82=true:=by kernel_rfl
theorem RV:aj aM 83=true:=by kernel_rfl
theorem RU:aj aM 84=true:=by kernel_rfl
theorem RT:aj aM 85=true:=by kernel_rfl
theorem RS:aj aM 86=true:=by kernel_rfl
theorem Pz:aj aM 87=true:=by kernel_rfl
theorem RR:aj aM 88=true:=by kernel_rfl
theorem RQ:aj aM 89=true:=by kernel_rfl
theorem RP:aj aM 90=true:=by kernel_rfl
theorem RO:aj aM 91=true:=by kernel_rfl
theorem RN:aj aM 92=true:=by kernel_rfl
theorem RM:aj aM 93=true:=by kernel_rfl
theorem RL:aj aM 94=true:=by kernel_rfl
theorem RK:aj aM 95=true:=by kernel_rfl
theorem N4:aj aM 96=true:=by kernel_rfl
theorem QX:aj aM 105=true:=by kernel_rfl
theorem QW:aj aM 106=true:=by kernel_rfl
theorem QV:aj aM 107=true:=by kernel_rfl
theorem QU:aj aM 108=true:=by kernel_rfl
theorem QT:aj aM 109=true:=by kernel_rfl
theorem QS:aj aM 110=true:=by kernel_rfl
theorem QR:aj aM 111=true:=by kernel_rfl
theorem QQ:aj aM 112=true:=by kernel_rfl
theorem Mx:aj aM 113=true:=by kernel_rfl
theorem QP:aj aM 114=true:=by kernel_rfl
theorem Mw:aj aM 115=true:=by kernel_rfl
theorem QO:aj aM 116=true:=by kernel_rfl
theorem QN:aj aM 117=true:=by kernel_rfl
theorem Jc:aj aM 118=true:=by kernel_rfl
theorem Mv:aj aM 135=true:=by kernel_rfl
theorem AM:aj aM 136=true:=by kernel_rfl
theorem QL:aj aM 137=true:=by kernel_rfl
theorem QK:aj aM 138=true:=by kernel_rfl
theorem QJ:aj aM 139=true:=by kernel_rfl
theorem QI:aj aM 140=true:=by kernel_rfl
theorem QH:aj aM 141=true:=by kernel_rfl
theorem Mu:aj aM 142=true:=by kernel_rfl
theorem Mt:aj aM 143=true:=by kernel_rfl
theorem QG:aj aM 144=true:=by kernel_rfl
theorem QF:aj aM 145=true:=by kernel_rfl
theorem QE:aj aM 146=true:=by kernel_rfl
theorem QD:aj aM 147=true:=by kernel_rfl
theorem Jb:aj aM 148=true:=by kernel_rfl
theorem F2:aj aM 149=true:=by kernel_rfl
theorem Ms:aj aM 150=true:=by kernel_rfl
theorem QB:aj aM 151=true:=by kernel_rfl
theorem QA:aj aM 152=true:=by kernel_rfl
theorem Qz:aj aM 153=true:=by kernel_rfl
theorem Qy:aj aM 154=true:=by kernel_rfl
theorem Qx:aj aM 155=true:=by kernel_rfl
theorem Qw:aj aM 156=true:=by kernel_rfl
theorem Qv:aj aM 157=true:=by kernel_rfl
theorem Qu:aj aM 158=true:=by kernel_rfl
theorem Mr:aj aM 159=true:=by kernel_rfl
theorem F1:aj aM 160=true:=by kernel_rfl
theorem Qt:aj aM 161=true:=by kernel_rfl
theorem Qs:aj aM 162=true:=by kernel_rfl
theorem Mq:aj aM 163=true:=by kernel_rfl
theorem Ja:aj aM 169=true:=by kernel_rfl
theorem Qr:aj aM 170=true:=by kernel_rfl
theorem Qq:aj aM 171=true:=by kernel_rfl
theorem Qp:aj aM 172=true:=by kernel_rfl
theorem Mp:aj aM 173=true:=by kernel_rfl
theorem Qo:aj aM 174=true:=by kernel_rfl
theorem Qn:aj aM 175=true:=by kernel_rfl
theorem Qm:aj aM 176=true:=by kernel_rfl
theorem Ql:aj aM 177=true:=by kernel_rfl
theorem Qk:aj aM 178=true:=by kernel_rfl
theorem Qj:aj aM 179=true:=by kernel_rfl
theorem Qi:aj aM 180=true:=by kernel_rfl
theorem Qh:aj aM 181=true:=by kernel_rfl
theorem Qg:aj aM 184=true:=by kernel_rfl
theorem Qf:aj aM 205=true:=by kernel_rfl
theorem Mo:aj aM 206=true:=by kernel_rfl
theorem Qe:aj aM 207=true:=by kernel_rfl
theorem Qd:aj aM 208=true:=by kernel_rfl
theorem Qc:aj aM 209=true:=by kernel_rfl
theorem Qb:aj aM 210=true:=by kernel_rfl
theorem Qa:aj aM 211=true:=by kernel_rfl
theorem PZ:aj aM 212=true:=by kernel_rfl
theorem Mn:aj aM 213=true:=by kernel_rfl
theorem PY:aj aM 214=true:=by kernel_rfl
theorem PX:aj aM 215=true:=by kernel_rfl
theorem PW:aj aM 216=true:=by kernel_rfl
theorem PV:aj aM 217=true:=by kernel_rfl
theorem PU:aj aM 218=true:=by kernel_rfl
theorem Mm:aj aM 226=true:=by kernel_rfl
theorem PT:aj aM 227=true:=by kernel_rfl
theorem PS:aj aM 228=true:=by kernel_rfl
theorem PR:aj aM 229=true:=by kernel_rfl
theorem PQ:aj aM 230=true:=by kernel_rfl
theorem PP:aj aM 231=true:=by kernel_rfl
theorem PO:aj aM 232=true:=by kernel_rfl
theorem PN:aj aM 233=true:=by kernel_rfl
theorem PM:aj aM 250=true:=by kernel_rfl
theorem PL:aj aM 251=true:=by kernel_rfl
theorem PK:aj aM 256=true:=by kernel_rfl
theorem PJ:aj aM 263=true:=by kernel_rfl
theorem PI:aj aM 264=true:=by kernel_rfl
theorem PH:aj aM 265=true:=by kernel_rfl
theorem PG:aj aM 266=true:=by kernel_rfl
theorem PE:aj aM 279=true:=by kernel_rfl
theorem PD:aj aM 287=true:=by kernel_rfl
theorem zv4:ZV aM 4 (.bool false):=(show(Tryz.prog.info? 4).bind (fun i=>i.zero)=some (.bool false) by kernel_rfl)
theorem Ot:ZV aM 128 (.nilFunc):=(show(Tryz.prog.info? 128).bind (fun i=>i.zero)=some (.nilFunc) by kernel_rfl)
theorem Oq:ZV aM 171 (.nilFunc):=(show(Tryz.prog.info? 171).bind (fun i=>i.zero)=some (.nilFunc) by kernel_rfl)
theorem LH:Jq aM 61 (jm (rI .i64) 2):=Jq.of (by kernel_rfl) (ms (LF (n:=1) xl bK rfl rfl (uR (n:=0) iF)) 18)
theorem Pw:kT aM 82 bf 2:=yN (n:=1) (fs:=[(3,0,false),(2,1,false),(80,2,false),(9,3,false)]) (by kernel_rfl) (by kernel_rfl) rfl (Gk.cons bK rfl rfl lA (ms (uR (n:=0) iF) 0) (Gk.cons Og rfl rfl qF (ms (uR (n:=0) Tryz.underlying2) 0) (Gk.cons MR rfl rfl yA (ms (uR (n:=0) E7) 0) (Gk.cons Cr rfl rfl mR (ms (LE (n:=0) iU) 0) Gk.nil)))) (fun x y=>by cases x;cases y;simp [Bool.decide_and])
theorem N0:Jq aM 82 bf:=Jq.of (by kernel_rfl) (ms Pw 18)
theorem NY:kT aM 111 lr 2:=yN (n:=1) (fs:=[(3,0,false),(4,1,false)]) (by kernel_rfl) (by kernel_rfl) rfl (Gk.cons bK rfl rfl yC (ms (uR (n:=0) iF) 0) (Gk.cons H5 rfl rfl IL (ms (I0 (n:=0) HS) 0) Gk.nil)) (fun x y=>by cases x;cases y;simp [Bool.decide_and])
theorem Px:Jq aM 111 lr:=Jq.of (by kernel_rfl) (ms NY 18)
theorem upX:Go.Proofs.Builder.Extra aM kf:={sizeBuilder:=by kernel_rfl,liesBuilder:=by kernel_rfl,t5:=Gm,a5:=Tryz.isAgg5,z5:=Tryz.sizeOf5,v5:=Tryz.zeroValue5,infoByte:=by kernel_rfl,cellsByte:=by kernel_rfl,sizeByte:=by kernel_rfl,neB5:=by decide}

end Go.Proofs.YtmogpgcfognefaaGreatDoor

