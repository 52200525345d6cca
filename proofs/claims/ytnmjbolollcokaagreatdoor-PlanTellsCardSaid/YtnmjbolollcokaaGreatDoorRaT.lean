/- cN of this claim: T. -/
import Derived.Test.YtnmjbolollcokaaGreatDoorRaD
import Derived.Test.YtnmjbolollcokaaGreatDoorProg
import Derived.Test.YtnmjbolollcokaaGreatDoorRaS
import Derived.Test.YtnmjbolollcokaaGreatDoorRaV4
import Derived.Shelf.Strings.CaseAny
import Derived.KernelRfl
set_option linter.all false
namespace Go.Proofs.YtnmjbolollcokaaGreatDoor
open Go
noncomputable abbrev aX:=Tryz.prog
def cW:= @Tryz.underlying42
def nD:= @Tryz.underlying140
def oz:= @Tryz.underlying22
def pQ:= @Tryz.underlying9
def je:= @Tryz.underlying65
def jX:= @Tryz.underlying31
def lj:= @Tryz.underlying3
def ny:= @Tryz.underlying68
def nw:= @Tryz.underlying89
def nv:= @Tryz.underlying69
def rP:= @Tryz.underlying46
def tF:= @Tryz.underlying81
def yu:= @Tryz.underlying139
def yr:= @Tryz.underlying224
def yq:= @Tryz.underlying25
def yp:= @Tryz.underlying70
def Dh:= @Tryz.underlying141

theorem mixed:Tryz.prog.follows .mixedOrders=true:=by kernel_rfl
theorem J7:TI aX 2 1 8 false [.int .i64 0]:=⟨by kernel_rfl,by kernel_rfl⟩
theorem bD:TI aX 3 1 8 false [.int .i64 0]:=⟨by kernel_rfl,by kernel_rfl⟩
theorem Cv:TI aX 4 1 1 false [.bool false]:=⟨by kernel_rfl,by kernel_rfl⟩
theorem Dr:TI aX 9 1 16 false [.string ⟨#[]⟩]:=⟨by kernel_rfl,by kernel_rfl⟩
theorem kE:TI aX 22 1 24 false [.slice none 0 0]:=⟨by kernel_rfl,by kernel_rfl⟩
theorem lV:TI aX 24 1 24 true [.slice none 0 0]:=⟨by kernel_rfl,by kernel_rfl⟩
theorem Du:TI aX 25 1 24 false [.slice none 0 0]:=⟨by kernel_rfl,by kernel_rfl⟩
theorem Bs:TI aX 27 1 24 true [.slice none 0 0]:=⟨by kernel_rfl,by kernel_rfl⟩
theorem lk:TI aX 31 1 24 false [.slice none 0 0]:=⟨by kernel_rfl,by kernel_rfl⟩
theorem fT:TI aX 33 1 24 true [.slice none 0 0]:=⟨by kernel_rfl,by kernel_rfl⟩
theorem cy:TI aX 42 1 24 false [.slice none 0 0]:=⟨by kernel_rfl,by kernel_rfl⟩
theorem Gc:TI aX 46 1 24 false [.slice none 0 0]:=⟨by kernel_rfl,by kernel_rfl⟩
theorem p9:TI aX 52 3 24 true [.int .i64 0,.int .i64 0,.int .i64 0]:=⟨by kernel_rfl,by kernel_rfl⟩
theorem jT:TI aX 65 1 24 false [.slice none 0 0]:=⟨by kernel_rfl,by kernel_rfl⟩
theorem fe:TI aX 67 1 24 true [.slice none 0 0]:=⟨by kernel_rfl,by kernel_rfl⟩
theorem ro:TI aX 68 1 24 false [.slice none 0 0]:=⟨by kernel_rfl,by kernel_rfl⟩
theorem rY:TI aX 69 1 24 false [.slice none 0 0]:=⟨by kernel_rfl,by kernel_rfl⟩
theorem Br:TI aX 70 1 24 false [.slice none 0 0]:=⟨by kernel_rfl,by kernel_rfl⟩
theorem cD:TI aX 72 12 192 true [.int .i64 0,.int .i64 0,.int .i64 0,.int .i64 0,.slice none 0 0,.bool false,.slice none 0 0,.slice none 0 0,.slice none 0 0,.slice none 0 0,.slice none 0 0,.int .i64 0]:=⟨by kernel_rfl,by kernel_rfl⟩
theorem kc:TI aX 74 4 64 true [.slice none 0 0,.int .i64 0,.int .i64 0,.slice none 0 0]:=⟨by kernel_rfl,by kernel_rfl⟩
theorem lU:TI aX 78 2 32 true [.int .i64 0,.slice none 0 0]:=⟨by kernel_rfl,by kernel_rfl⟩
theorem Dt:TI aX 81 1 24 false [.slice none 0 0]:=⟨by kernel_rfl,by kernel_rfl⟩
theorem rX:TI aX 83 3 64 true [.string ⟨#[]⟩,.slice none 0 0,.slice none 0 0]:=⟨by kernel_rfl,by kernel_rfl⟩
theorem nA:TI aX 85 2 24 true [.string ⟨#[]⟩,.int .i64 0]:=⟨by kernel_rfl,by kernel_rfl⟩
theorem p4:TI aX 89 1 24 false [.slice none 0 0]:=⟨by kernel_rfl,by kernel_rfl⟩
theorem LY:TI aX 91 4 96 true [.slice none 0 0,.slice none 0 0,.slice none 0 0,.slice none 0 0]:=⟨by kernel_rfl,by kernel_rfl⟩
theorem bt:TI aX 95 4 80 true [.slice none 0 0,.slice none 0 0,.int .i64 0,.slice none 0 0]:=⟨by kernel_rfl,by kernel_rfl⟩
theorem Kb:TI aX 109 1 8 false [.nilFunc]:=⟨by kernel_rfl,by kernel_rfl⟩
theorem fU:TI aX 118 1 8 false [.pointer none]:=⟨by kernel_rfl,by kernel_rfl⟩
theorem Ka:TI aX 123 3 72 true [.slice none 0 0,.slice none 0 0,.slice none 0 0]:=⟨by kernel_rfl,by kernel_rfl⟩
theorem Hy:TI aX 126 1 8 false [.int .u64 0]:=⟨by kernel_rfl,by kernel_rfl⟩
theorem pR:TI aX 128 4 40 true [.int .i64 0,.int .i64 0,.int .u64 0,.string ⟨#[]⟩]:=⟨by kernel_rfl,by kernel_rfl⟩
theorem dc:TI aX 130 8 72 true [.int .i64 0,.int .i64 0,.int .i64 0,.int .i64 0,.int .i64 0,.int .i64 0,.int .u64 0,.string ⟨#[]⟩]:=⟨by kernel_rfl,by kernel_rfl⟩
theorem J9:TI aX 135 1 8 false [.nilFunc]:=⟨by kernel_rfl,by kernel_rfl⟩
theorem xm:TI aX 141 2 16 true (List.replicate 2 (.int .i64 0)):=⟨by kernel_rfl,by kernel_rfl⟩
theorem Cw:TI aX 173 2 16 true [.int .i64 0,.bool false]:=⟨by kernel_rfl,by kernel_rfl⟩
theorem J8:TI aX 186 1 8 false [.nilFunc]:=⟨by kernel_rfl,by kernel_rfl⟩
theorem EG:TI aX 232 2 24 true [.string ⟨#[]⟩,.int .i64 0]:=⟨by kernel_rfl,by kernel_rfl⟩
theorem J6:TI aX 233 6 72 true [.string ⟨#[]⟩,.int .i64 0,.string ⟨#[]⟩,.int .i64 0,.string ⟨#[]⟩,.int .i64 0]:=⟨by kernel_rfl,by kernel_rfl⟩
theorem mt:bJ aX 24 0=some (0,1):=by kernel_rfl
theorem uj:bJ aX 27 0=some (0,1):=by kernel_rfl
theorem eC:bJ aX 33 0=some (0,1):=by kernel_rfl
theorem BZ:bJ aX 52 0=some (0,1):=by kernel_rfl
theorem BY:bJ aX 52 1=some (1,1):=by kernel_rfl
theorem BX:bJ aX 52 2=some (2,1):=by kernel_rfl
theorem ow:bJ aX 55 0=some (0,1):=by kernel_rfl
theorem ov:bJ aX 55 1=some (1,1):=by kernel_rfl
theorem wt:bJ aX 55 2=some (2,1):=by kernel_rfl
theorem d2:bJ aX 67 0=some (0,1):=by kernel_rfl
theorem pD:bJ aX 72 0=some (0,1):=by kernel_rfl
theorem fM:bJ aX 72 1=some (1,1):=by kernel_rfl
theorem ko:bJ aX 72 2=some (2,1):=by kernel_rfl
theorem pB:bJ aX 72 3=some (3,1):=by kernel_rfl
theorem ou:bJ aX 72 4=some (4,1):=by kernel_rfl
theorem Fg:bJ aX 72 5=some (5,1):=by kernel_rfl
theorem pA:bJ aX 72 6=some (6,1):=by kernel_rfl
theorem ms:bJ aX 72 7=some (7,1):=by kernel_rfl
theorem jW:bJ aX 72 8=some (8,1):=by kernel_rfl
theorem k5:bJ aX 72 9=some (9,1):=by kernel_rfl
theorem pC:bJ aX 72 10=some (10,1):=by kernel_rfl
theorem vt:bJ aX 72 11=some (11,1):=by kernel_rfl
theorem qM:bJ aX 74 0=some (0,1):=by kernel_rfl
theorem Ff:bJ aX 74 1=some (1,1):=by kernel_rfl
theorem IN:bJ aX 74 3=some (3,1):=by kernel_rfl
theorem zh:bJ aX 78 0=some (0,1):=by kernel_rfl
theorem wr:bJ aX 78 1=some (1,1):=by kernel_rfl
theorem Fe:bJ aX 83 0=some (0,1):=by kernel_rfl
theorem ui:bJ aX 83 1=some (1,1):=by kernel_rfl
theorem BW:bJ aX 83 2=some (2,1):=by kernel_rfl
theorem IM:bJ aX 85 0=some (0,1):=by kernel_rfl
theorem Fc:bJ aX 85 1=some (1,1):=by kernel_rfl
theorem qL:bJ aX 91 0=some (0,1):=by kernel_rfl
theorem IL:bJ aX 91 1=some (1,1):=by kernel_rfl
theorem IK:bJ aX 91 2=some (2,1):=by kernel_rfl
theorem BV:bJ aX 91 3=some (3,1):=by kernel_rfl
theorem ot:bJ aX 95 0=some (0,1):=by kernel_rfl
theorem BU:bJ aX 95 1=some (1,1):=by kernel_rfl
theorem ne:bJ aX 95 2=some (2,1):=by kernel_rfl
theorem km:bJ aX 95 3=some (3,1):=by kernel_rfl
theorem zj:bJ aX 123 0=some (0,1):=by kernel_rfl
theorem i9:bJ aX 123 1=some (1,1):=by kernel_rfl
theorem nU:bJ aX 123 2=some (2,1):=by kernel_rfl
theorem ri:bJ aX 128 0=some (0,1):=by kernel_rfl
theorem vu:bJ aX 128 1=some (1,1):=by kernel_rfl
theorem GA:bJ aX 128 2=some (2,1):=by kernel_rfl
theorem zi:bJ aX 128 3=some (3,1):=by kernel_rfl
theorem gU:bJ aX 130 0=some (0,1):=by kernel_rfl
theorem ta:bJ aX 130 1=some (1,1):=by kernel_rfl
theorem s9:bJ aX 130 2=some (2,1):=by kernel_rfl
theorem k6:bJ aX 130 3=some (3,1):=by kernel_rfl
theorem s8:bJ aX 130 4=some (4,4):=by kernel_rfl
theorem CN:bJ aX 173 0=some (0,1):=by kernel_rfl
theorem Gz:bJ aX 232 0=some (0,1):=by kernel_rfl
theorem Gy:bJ aX 232 1=some (1,1):=by kernel_rfl
theorem II:fh aX 24=some [(0,1)]:=by kernel_rfl
theorem Ml:fh aX 27=some [(0,1)]:=by kernel_rfl
theorem Gw:fh aX 33=some [(0,1)]:=by kernel_rfl
theorem Fa:fh aX 52=some [(0,1),(1,1),(2,1)]:=by kernel_rfl
theorem IH:fh aX 67=some [(0,1)]:=by kernel_rfl
theorem Gv:fh aX 72=some [(0,1),(1,1),(2,1),(3,1),(4,1),(5,1),(6,1),(7,1),(8,1),(9,1),(10,1),(11,1)]:=by kernel_rfl
theorem Kl:fh aX 74=some [(0,1),(1,1),(2,1),(3,1)]:=by kernel_rfl
theorem Kk:fh aX 78=some [(0,1),(1,1)]:=by kernel_rfl
theorem Kj:fh aX 83=some [(0,1),(1,1),(2,1)]:=by kernel_rfl
theorem IG:fh aX 85=some [(0,1),(1,1)]:=by kernel_rfl
theorem Mk:fh aX 91=some [(0,1),(1,1),(2,1),(3,1)]:=by kernel_rfl
theorem IF:fh aX 95=some [(0,1),(1,1),(2,1),(3,1)]:=by kernel_rfl
theorem Km:fh aX 123=some [(0,1),(1,1),(2,1)]:=by kernel_rfl
theorem Fb:fh aX 128=some [(0,1),(1,1),(2,1),(3,1)]:=by kernel_rfl
theorem cb8:ak aX 8=true:=by kernel_rfl
theorem cb9:ak aX 9=true:=by kernel_rfl
theorem M1:ak aX 11=true:=by kernel_rfl
theorem M0:ak aX 14=true:=by kernel_rfl
theorem MZ:ak aX 15=true:=by kernel_rfl
theorem MY:ak aX 16=true:=by kernel_rfl
theorem Lp:ak aX 17=true:=by kernel_rfl
theorem MX:ak aX 18=true:=by kernel_rfl
theorem MW:ak aX 19=true:=by kernel_rfl
theorem Lf:ak aX 20=true:=by kernel_rfl
theorem JG:ak aX 21=true:=by kernel_rfl
theorem JF:ak aX 22=true:=by kernel_rfl
theorem MU:ak aX 23=true:=by kernel_rfl
theorem JE:ak aX 24=true:=by kernel_rfl
theorem MT:ak aX 27=true:=by kernel_rfl
theorem MS:ak aX 29=true:=by kernel_rfl
theorem JD:ak aX 30=true:=by kernel_rfl
theorem MR:ak aX 31=true:=by kernel_rfl
theorem MQ:ak aX 32=true:=by kernel_rfl
theorem MP:ak aX 33=true:=by kernel_rfl
theorem MO:ak aX 34=true:=by kernel_rfl
theorem D9:ak aX 35=true:=by kernel_rfl
theorem KF:ak aX 36=true:=by kernel_rfl
theorem MN:ak aX 37=true:=by kernel_rfl
theorem MM:ak aX 38=true:=by kernel_rfl
theorem FJ:ak aX 45=true:=by kernel_rfl
theorem KE:ak aX 46=true:=by kernel_rfl
theorem JC:ak aX 47=true:=by kernel_rfl
theorem JB:ak aX 48=true:=by kernel_rfl
theorem ML:ak aX 49=true:=by kernel_rfl
theorem MK:ak aX 50=true:=by kernel_rfl
theorem MJ:ak aX 51=true:=by kernel_rfl
theorem JA:ak aX 55=true:=by kernel_rfl
theorem AN:ak aX 56=true:=by kernel_rfl
theorem MI:ak aX 58=true:=by kernel_rfl
theorem MH:ak aX 59=true:=by kernel_rfl
theorem MG:ak aX 60=true:=by kernel_rfl
theorem MF:ak aX 61=true:=by kernel_rfl
theorem ME:ak aX 62=true:=by kernel_rfl
theorem Jz:ak aX 63=true:=by kernel_rfl
theorem MD:ak aX 64=true:=by kernel_rfl
theorem AM:ak aX 65=true:=by kernel_rfl
theorem MC:ak aX 66=true:=by kernel_rfl
theorem MB:ak aX 67=true:=by kernel_rfl
theorem MA:ak aX 68=true:=by kernel_rfl
theorem Mz:ak aX 69=true:=by kernel_rfl
theorem My:ak aX 70=true:=by kernel_rfl
theorem Mx:ak aX 71=true:=by kernel_rfl
theorem Mw:ak aX 72=true:=by kernel_rfl
theorem Mv:ak aX 73=true:=by kernel_rfl
theorem Mu:ak aX 74=true:=by kernel_rfl
theorem Mt:ak aX 81=true:=by kernel_rfl
theorem Jy:ak aX 82=true:=by kernel_rfl
theorem Ms:ak aX 83=true:=by kernel_rfl
theorem Mr:ak aX 93=true:=by kernel_rfl
theorem Jx:ak aX 96=true:=by kernel_rfl
theorem Mq:ak aX 97=true:=by kernel_rfl
theorem Mp:ak aX 98=true:=by kernel_rfl
theorem Mo:ak aX 99=true:=by kernel_rfl
theorem HN:ak aX 100=true:=by kernel_rfl
theorem LN:ak aX 101=true:=by kernel_rfl
theorem LM:ak aX 102=true:=by kernel_rfl
theorem CZ:ak aX 103=true:=by kernel_rfl
theorem LL:ak aX 104=true:=by kernel_rfl
theorem LK:ak aX 105=true:=by kernel_rfl
theorem nY:ak aX 106=true:=by kernel_rfl
theorem uX:ak aX 107=true:=by kernel_rfl
theorem FL:ak aX 108=true:=by kernel_rfl
theorem LJ:ak aX 109=true:=by kernel_rfl
theorem HM:ak aX 110=true:=by kernel_rfl
theorem LI:ak aX 111=true:=by kernel_rfl
theorem LH:ak aX 125=true:=by kernel_rfl
theorem LF:ak aX 126=true:=by kernel_rfl
theorem HK:ak aX 127=true:=by kernel_rfl
theorem LE:ak aX 143=true:=by kernel_rfl
theorem LD:ak aX 144=true:=by kernel_rfl
theorem LC:ak aX 145=true:=by kernel_rfl
theorem LB:ak aX 147=true:=by kernel_rfl
theorem LA:ak aX 148=true:=by kernel_rfl
theorem Lz:ak aX 149=true:=by kernel_rfl
theorem Ly:ak aX 150=true:=by kernel_rfl
theorem Lx:ak aX 151=true:=by kernel_rfl
theorem Lw:ak aX 152=true:=by kernel_rfl
theorem Lv:ak aX 153=true:=by kernel_rfl
theorem Lu:ak aX 154=true:=by kernel_rfl
theorem Lt:ak aX 155=true:=by kernel_rfl
theorem Ls:ak aX 156=true:=by kernel_rfl
theorem Lr:ak aX 157=true:=by kernel_rfl
theorem Lq:ak aX 158=true:=by kernel_rfl
theorem HJ:ak aX 172=true:=by kernel_rfl
theorem Lo:ak aX 173=true:=by kernel_rfl
theorem Ln:ak aX 174=true:=by kernel_rfl
theorem Lm:ak aX 175=true:=by kernel_rfl
theorem Ll:ak aX 176=true:=by kernel_rfl
theorem Lk:ak aX 177=true:=by kernel_rfl
theorem Lj:ak aX 178=true:=by kernel_rfl
theorem Li:ak aX 179=true:=by kernel_rfl
theorem Lh:ak aX 192=true:=by kernel_rfl
theorem Lg:ak aX 193=true:=by kernel_rfl
theorem CY:ak aX 199=true:=by kernel_rfl
theorem Le:ak aX 200=true:=by kernel_rfl
theorem Ld:ak aX 201=true:=by kernel_rfl
theorem HI:ak aX 202=true:=by kernel_rfl
theorem HH:ak aX 203=true:=by kernel_rfl
theorem Lc:ak aX 204=true:=by kernel_rfl
theorem Lb:ak aX 205=true:=by kernel_rfl
theorem La:ak aX 206=true:=by kernel_rfl
theorem HG:ak aX 207=true:=by kernel_rfl
theorem K9:ak aX 208=true:=by kernel_rfl
theorem K8:ak aX 209=true:=by kernel_rfl
theorem FK:ak aX 210=true:=by kernel_rfl
theorem K0:ak aX 211=true:=by kernel_rfl
theorem KZ:ak aX 212=true:=by kernel_rfl
theorem KY:ak aX 213=true:=by kernel_rfl
theorem KX:ak aX 218=true:=by kernel_rfl
theorem KW:ak aX 225=true:=by kernel_rfl
theorem KV:ak aX 226=true:=by kernel_rfl
theorem KU:ak aX 234=true:=by kernel_rfl
theorem HF:ak aX 235=true:=by kernel_rfl
theorem KT:ak aX 236=true:=by kernel_rfl
theorem KS:ak aX 237=true:=by kernel_rfl
theorem KR:ak aX 238=true:=by kernel_rfl
theorem KQ:ak aX 239=true:=by kernel_rfl
theorem KP:ak aX 240=true:=by kernel_rfl
theorem KO:ak aX 241=true:=by kernel_rfl
theorem KN:ak aX 242=true:=by kernel_rfl
theorem KM:ak aX 243=true:=by kernel_rfl
theorem KL:ak aX 254=true:=by kernel_rfl
theorem KK:ak aX 255=true:=by kernel_rfl
theorem KJ:ak aX 256=true:=by kernel_rfl
theorem KI:ak aX 257=true:=by kernel_rfl
theorem KH:ak aX 265=true:=by kernel_rfl
theorem KG:ak aX 273=true:=by kernel_rfl
theorem JR:ZV aX 138 (.nilFunc):=(show(Tryz.prog.info? 138).bind (fun i=>i.zero)=some (.nilFunc) by kernel_rfl)
theorem JQ:ZV aX 223 (.nilFunc):=(show(Tryz.prog.info? 223).bind (fun i=>i.zero)=some (.nilFunc) by kernel_rfl)
theorem KB:jR aX 52 bC 2:=wy (n:=1) (fs:=[(3,0,false),(3,1,false),(3,2,false)]) (by kernel_rfl) (by kernel_rfl) rfl (Cn.cons bD rfl rfl nT (j8 (pI (n:=0) lj) 0) (Cn.cons bD rfl rfl nS (j8 (pI (n:=0) lj) 0) (Cn.cons bD rfl rfl nR (j8 (pI (n:=0) lj) 0) Cn.nil))) (fun x y=>by cases x;cases y;simp [Bool.decide_and])
theorem Mn:F3 aX 52 bC:=F3.of (by kernel_rfl) (j8 KB 18)
theorem Jt:jR aX 128 de 2:=wy (n:=1) (fs:=[(3,0,false),(2,1,false),(126,2,false),(9,3,false)]) (by kernel_rfl) (by kernel_rfl) rfl (Cn.cons bD rfl rfl px (j8 (pI (n:=0) lj) 0) (Cn.cons J7 rfl rfl sj (j8 (pI (n:=0) Tryz.underlying2) 0) (Cn.cons Hy rfl rfl BR (j8 (pI (n:=0) Tryz.underlying126) 0) (Cn.cons Dr rfl rfl si (j8 (Hl (n:=0) pQ) 0) Cn.nil)))) (fun x y=>by cases x;cases y;simp [Bool.decide_and])
theorem Fy:F3 aX 128 de:=F3.of (by kernel_rfl) (j8 Jt 18)
theorem KC:F3 aX 141 (oF (rI .i64) 2):=F3.of (by kernel_rfl) (j8 (Hm (n:=1) Dh bD rfl rfl (pI (n:=0) lj)) 18)
theorem upX:Go.Proofs.Builder.Extra aX jb:={sizeBuilder:=by kernel_rfl,liesBuilder:=by kernel_rfl,t5:=Tryz.underlying5,a5:=Tryz.isAgg5,z5:=Tryz.sizeOf5,v5:=Tryz.zeroValue5,infoByte:=by kernel_rfl,cellsByte:=by kernel_rfl,sizeByte:=by kernel_rfl,neB5:=by decide}

end Go.Proofs.YtnmjbolollcokaaGreatDoor

