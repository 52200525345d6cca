/- cJ of this claim: T. -/
import Derived.Test.YtnmjbolollcokaaGreatDoorRbD
import Derived.Test.YtnmjbolollcokaaGreatDoorProg
import Derived.Test.YtnmjbolollcokaaGreatDoorRbS
import Derived.Test.YtnmjbolollcokaaGreatDoorRbV4
import Derived.Shelf.Strings.CaseAny
import Derived.KernelRfl
set_option linter.all false
namespace Go.Proofs.YtnmjbolollcokaaGreatDoor
open Go
noncomputable abbrev ba:=Tryz.prog
def dm:= @Tryz.underlying42
def nj:= @Tryz.underlying140
def iq:= @Tryz.underlying22
def ip:= @Tryz.underlying9
def iT:= @Tryz.underlying65
def ku:= @Tryz.underlying3
def lP:= @Tryz.underlying31
def nf:= @Tryz.underlying68
def ne:= @Tryz.underlying89
def nc:= @Tryz.underlying69
def tg:= @Tryz.underlying81
def uQ:= @Tryz.underlying46
def wJ:= @Tryz.underlying49
def yo:= @Tryz.underlying139
def yn:= @Tryz.underlying224
def ym:= @Tryz.underlying25
def yl:= @Tryz.underlying70
def Dg:= @Tryz.underlying141

theorem mixed:Tryz.prog.follows .mixedOrders=true:=by kernel_rfl
theorem J9:TI ba 2 1 8 false [.int .i64 0]:=⟨by kernel_rfl,by kernel_rfl⟩
theorem bK:TI ba 3 1 8 false [.int .i64 0]:=⟨by kernel_rfl,by kernel_rfl⟩
theorem Cw:TI ba 4 1 1 false [.bool false]:=⟨by kernel_rfl,by kernel_rfl⟩
theorem Dp:TI ba 9 1 16 false [.string ⟨#[]⟩]:=⟨by kernel_rfl,by kernel_rfl⟩
theorem k5:TI ba 22 1 24 false [.slice none 0 0]:=⟨by kernel_rfl,by kernel_rfl⟩
theorem lD:TI ba 24 1 24 true [.slice none 0 0]:=⟨by kernel_rfl,by kernel_rfl⟩
theorem Dr:TI ba 25 1 24 false [.slice none 0 0]:=⟨by kernel_rfl,by kernel_rfl⟩
theorem Bt:TI ba 27 1 24 true [.slice none 0 0]:=⟨by kernel_rfl,by kernel_rfl⟩
theorem nP:TI ba 31 1 24 false [.slice none 0 0]:=⟨by kernel_rfl,by kernel_rfl⟩
theorem iV:TI ba 33 1 24 true [.slice none 0 0]:=⟨by kernel_rfl,by kernel_rfl⟩
theorem cu:TI ba 42 1 24 false [.slice none 0 0]:=⟨by kernel_rfl,by kernel_rfl⟩
theorem Gl:TI ba 46 1 24 false [.slice none 0 0]:=⟨by kernel_rfl,by kernel_rfl⟩
theorem mE:TI ba 52 3 24 true [.int .i64 0,.int .i64 0,.int .i64 0]:=⟨by kernel_rfl,by kernel_rfl⟩
theorem jG:TI ba 65 1 24 false [.slice none 0 0]:=⟨by kernel_rfl,by kernel_rfl⟩
theorem fa:TI ba 67 1 24 true [.slice none 0 0]:=⟨by kernel_rfl,by kernel_rfl⟩
theorem q0:TI ba 68 1 24 false [.slice none 0 0]:=⟨by kernel_rfl,by kernel_rfl⟩
theorem rA:TI ba 69 1 24 false [.slice none 0 0]:=⟨by kernel_rfl,by kernel_rfl⟩
theorem Bs:TI ba 70 1 24 false [.slice none 0 0]:=⟨by kernel_rfl,by kernel_rfl⟩
theorem cE:TI ba 72 12 192 true [.int .i64 0,.int .i64 0,.int .i64 0,.int .i64 0,.slice none 0 0,.bool false,.slice none 0 0,.slice none 0 0,.slice none 0 0,.slice none 0 0,.slice none 0 0,.int .i64 0]:=⟨by kernel_rfl,by kernel_rfl⟩
theorem lR:TI ba 74 4 64 true [.slice none 0 0,.int .i64 0,.int .i64 0,.slice none 0 0]:=⟨by kernel_rfl,by kernel_rfl⟩
theorem lC:TI ba 78 2 32 true [.int .i64 0,.slice none 0 0]:=⟨by kernel_rfl,by kernel_rfl⟩
theorem Dq:TI ba 81 1 24 false [.slice none 0 0]:=⟨by kernel_rfl,by kernel_rfl⟩
theorem rz:TI ba 83 3 64 true [.string ⟨#[]⟩,.slice none 0 0,.slice none 0 0]:=⟨by kernel_rfl,by kernel_rfl⟩
theorem nh:TI ba 85 2 24 true [.string ⟨#[]⟩,.int .i64 0]:=⟨by kernel_rfl,by kernel_rfl⟩
theorem pE:TI ba 89 1 24 false [.slice none 0 0]:=⟨by kernel_rfl,by kernel_rfl⟩
theorem LY:TI ba 91 4 96 true [.slice none 0 0,.slice none 0 0,.slice none 0 0,.slice none 0 0]:=⟨by kernel_rfl,by kernel_rfl⟩
theorem bo:TI ba 95 4 80 true [.slice none 0 0,.slice none 0 0,.int .i64 0,.slice none 0 0]:=⟨by kernel_rfl,by kernel_rfl⟩
theorem Kd:TI ba 109 1 8 false [.nilFunc]:=⟨by kernel_rfl,by kernel_rfl⟩
theorem fQ:TI ba 118 1 8 false [.pointer none]:=⟨by kernel_rfl,by kernel_rfl⟩
theorem Kc:TI ba 123 3 72 true [.slice none 0 0,.slice none 0 0,.slice none 0 0]:=⟨by kernel_rfl,by kernel_rfl⟩
theorem HF:TI ba 126 1 8 false [.int .u64 0]:=⟨by kernel_rfl,by kernel_rfl⟩
theorem pw:TI ba 128 4 40 true [.int .i64 0,.int .i64 0,.int .u64 0,.string ⟨#[]⟩]:=⟨by kernel_rfl,by kernel_rfl⟩
theorem da:TI ba 130 8 72 true [.int .i64 0,.int .i64 0,.int .i64 0,.int .i64 0,.int .i64 0,.int .i64 0,.int .u64 0,.string ⟨#[]⟩]:=⟨by kernel_rfl,by kernel_rfl⟩
theorem Kb:TI ba 135 1 8 false [.nilFunc]:=⟨by kernel_rfl,by kernel_rfl⟩
theorem xg:TI ba 141 2 16 true (List.replicate 2 (.int .i64 0)):=⟨by kernel_rfl,by kernel_rfl⟩
theorem Cx:TI ba 173 2 16 true [.int .i64 0,.bool false]:=⟨by kernel_rfl,by kernel_rfl⟩
theorem Ka:TI ba 186 1 8 false [.nilFunc]:=⟨by kernel_rfl,by kernel_rfl⟩
theorem EK:TI ba 232 2 24 true [.string ⟨#[]⟩,.int .i64 0]:=⟨by kernel_rfl,by kernel_rfl⟩
theorem J8:TI ba 233 6 72 true [.string ⟨#[]⟩,.int .i64 0,.string ⟨#[]⟩,.int .i64 0,.string ⟨#[]⟩,.int .i64 0]:=⟨by kernel_rfl,by kernel_rfl⟩
theorem l8:bJ ba 24 0=some (0,1):=by kernel_rfl
theorem tP:bJ ba 27 0=some (0,1):=by kernel_rfl
theorem gP:bJ ba 33 0=some (0,1):=by kernel_rfl
theorem B2:bJ ba 52 0=some (0,1):=by kernel_rfl
theorem Fn:bJ ba 52 1=some (1,1):=by kernel_rfl
theorem Fm:bJ ba 52 2=some (2,1):=by kernel_rfl
theorem dW:bJ ba 67 0=some (0,1):=by kernel_rfl
theorem qr:bJ ba 72 0=some (0,1):=by kernel_rfl
theorem fK:bJ ba 72 1=some (1,1):=by kernel_rfl
theorem ka:bJ ba 72 2=some (2,1):=by kernel_rfl
theorem qq:bJ ba 72 3=some (3,1):=by kernel_rfl
theorem n6:bJ ba 72 4=some (4,1):=by kernel_rfl
theorem Fl:bJ ba 72 5=some (5,1):=by kernel_rfl
theorem pi:bJ ba 72 6=some (6,1):=by kernel_rfl
theorem lZ:bJ ba 72 7=some (7,1):=by kernel_rfl
theorem jJ:bJ ba 72 8=some (8,1):=by kernel_rfl
theorem kI:bJ ba 72 9=some (9,1):=by kernel_rfl
theorem pj:bJ ba 72 10=some (10,1):=by kernel_rfl
theorem vi:bJ ba 72 11=some (11,1):=by kernel_rfl
theorem wk:bJ ba 74 0=some (0,1):=by kernel_rfl
theorem IW:bJ ba 74 1=some (1,1):=by kernel_rfl
theorem IV:bJ ba 74 3=some (3,1):=by kernel_rfl
theorem ze:bJ ba 78 0=some (0,1):=by kernel_rfl
theorem wj:bJ ba 78 1=some (1,1):=by kernel_rfl
theorem Fk:bJ ba 83 0=some (0,1):=by kernel_rfl
theorem tN:bJ ba 83 1=some (1,1):=by kernel_rfl
theorem B0:bJ ba 83 2=some (2,1):=by kernel_rfl
theorem IU:bJ ba 85 0=some (0,1):=by kernel_rfl
theorem Fj:bJ ba 85 1=some (1,1):=by kernel_rfl
theorem qp:bJ ba 91 0=some (0,1):=by kernel_rfl
theorem IT:bJ ba 91 1=some (1,1):=by kernel_rfl
theorem IS:bJ ba 91 2=some (2,1):=by kernel_rfl
theorem BZ:bJ ba 91 3=some (3,1):=by kernel_rfl
theorem nZ:bJ ba 95 0=some (0,1):=by kernel_rfl
theorem BY:bJ ba 95 1=some (1,1):=by kernel_rfl
theorem mV:bJ ba 95 2=some (2,1):=by kernel_rfl
theorem j9:bJ ba 95 3=some (3,1):=by kernel_rfl
theorem zg:bJ ba 123 0=some (0,1):=by kernel_rfl
theorem iQ:bJ ba 123 1=some (1,1):=by kernel_rfl
theorem nD:bJ ba 123 2=some (2,1):=by kernel_rfl
theorem qR:bJ ba 128 0=some (0,1):=by kernel_rfl
theorem vj:bJ ba 128 1=some (1,1):=by kernel_rfl
theorem GG:bJ ba 128 2=some (2,1):=by kernel_rfl
theorem zf:bJ ba 128 3=some (3,1):=by kernel_rfl
theorem gE:bJ ba 130 0=some (0,1):=by kernel_rfl
theorem sP:bJ ba 130 1=some (1,1):=by kernel_rfl
theorem sO:bJ ba 130 2=some (2,1):=by kernel_rfl
theorem kJ:bJ ba 130 3=some (3,1):=by kernel_rfl
theorem sN:bJ ba 130 4=some (4,4):=by kernel_rfl
theorem CO:bJ ba 173 0=some (0,1):=by kernel_rfl
theorem GF:bJ ba 232 0=some (0,1):=by kernel_rfl
theorem GE:bJ ba 232 1=some (1,1):=by kernel_rfl
theorem IQ:fe ba 24=some [(0,1)]:=by kernel_rfl
theorem Mn:fe ba 27=some [(0,1)]:=by kernel_rfl
theorem GD:fe ba 33=some [(0,1)]:=by kernel_rfl
theorem Mm:fe ba 52=some [(0,1),(1,1),(2,1)]:=by kernel_rfl
theorem IP:fe ba 67=some [(0,1)]:=by kernel_rfl
theorem GC:fe ba 72=some [(0,1),(1,1),(2,1),(3,1),(4,1),(5,1),(6,1),(7,1),(8,1),(9,1),(10,1),(11,1)]:=by kernel_rfl
theorem Km:fe ba 74=some [(0,1),(1,1),(2,1),(3,1)]:=by kernel_rfl
theorem Kl:fe ba 78=some [(0,1),(1,1)]:=by kernel_rfl
theorem Kk:fe ba 83=some [(0,1),(1,1),(2,1)]:=by kernel_rfl
theorem IN:fe ba 85=some [(0,1),(1,1)]:=by kernel_rfl
theorem Ml:fe ba 91=some [(0,1),(1,1),(2,1),(3,1)]:=by kernel_rfl
theorem IM:fe ba 95=some [(0,1),(1,1),(2,1),(3,1)]:=by kernel_rfl
theorem Kn:fe ba 123=some [(0,1),(1,1),(2,1)]:=by kernel_rfl
theorem Fi:fe ba 128=some [(0,1),(1,1),(2,1),(3,1)]:=by kernel_rfl
theorem cb8:al ba 8=true:=by kernel_rfl
theorem cb9:al ba 9=true:=by kernel_rfl
theorem M1:al ba 11=true:=by kernel_rfl
theorem M0:al ba 14=true:=by kernel_rfl
theorem MZ:al ba 16=true:=by kernel_rfl
theorem Lp:al ba 17=true:=by kernel_rfl
theorem MY:al ba 18=true:=by kernel_rfl
theorem MX:al ba 19=true:=by kernel_rfl
theorem MW:al ba 27=true:=by kernel_rfl
theorem MU:al ba 29=true:=by kernel_rfl
theorem JI:al ba 30=true:=by kernel_rfl
theorem MT:al ba 31=true:=by kernel_rfl
theorem MS:al ba 32=true:=by kernel_rfl
theorem MR:al ba 33=true:=by kernel_rfl
theorem MQ:al ba 34=true:=by kernel_rfl
theorem Ea:al ba 35=true:=by kernel_rfl
theorem KG:al ba 36=true:=by kernel_rfl
theorem MP:al ba 37=true:=by kernel_rfl
theorem MO:al ba 38=true:=by kernel_rfl
theorem Hv:al ba 45=true:=by kernel_rfl
theorem KF:al ba 46=true:=by kernel_rfl
theorem KE:al ba 47=true:=by kernel_rfl
theorem JH:al ba 48=true:=by kernel_rfl
theorem MN:al ba 49=true:=by kernel_rfl
theorem MM:al ba 50=true:=by kernel_rfl
theorem ML:al ba 51=true:=by kernel_rfl
theorem JG:al ba 55=true:=by kernel_rfl
theorem AO:al ba 56=true:=by kernel_rfl
theorem MK:al ba 58=true:=by kernel_rfl
theorem MJ:al ba 59=true:=by kernel_rfl
theorem MI:al ba 60=true:=by kernel_rfl
theorem MH:al ba 61=true:=by kernel_rfl
theorem MG:al ba 62=true:=by kernel_rfl
theorem JF:al ba 63=true:=by kernel_rfl
theorem MF:al ba 64=true:=by kernel_rfl
theorem AN:al ba 65=true:=by kernel_rfl
theorem ME:al ba 66=true:=by kernel_rfl
theorem MD:al ba 67=true:=by kernel_rfl
theorem MC:al ba 68=true:=by kernel_rfl
theorem MB:al ba 69=true:=by kernel_rfl
theorem MA:al ba 70=true:=by kernel_rfl
theorem Mz:al ba 71=true:=by kernel_rfl
theorem My:al ba 72=true:=by kernel_rfl
theorem Mx:al ba 73=true:=by kernel_rfl
theorem Mw:al ba 74=true:=by kernel_rfl
theorem Mv:al ba 81=true:=by kernel_rfl
theorem JE:al ba 82=true:=by kernel_rfl
theorem Mu:al ba 83=true:=by kernel_rfl
theorem Mt:al ba 93=true:=by kernel_rfl
theorem JD:al ba 96=true:=by kernel_rfl
theorem Ms:al ba 97=true:=by kernel_rfl
theorem Mr:al ba 98=true:=by kernel_rfl
theorem Mq:al ba 99=true:=by kernel_rfl
theorem HU:al ba 100=true:=by kernel_rfl
theorem LN:al ba 101=true:=by kernel_rfl
theorem LM:al ba 102=true:=by kernel_rfl
theorem CZ:al ba 103=true:=by kernel_rfl
theorem LL:al ba 104=true:=by kernel_rfl
theorem LK:al ba 105=true:=by kernel_rfl
theorem nI:al ba 106=true:=by kernel_rfl
theorem uI:al ba 107=true:=by kernel_rfl
theorem FQ:al ba 108=true:=by kernel_rfl
theorem LJ:al ba 109=true:=by kernel_rfl
theorem HT:al ba 110=true:=by kernel_rfl
theorem LI:al ba 111=true:=by kernel_rfl
theorem LH:al ba 125=true:=by kernel_rfl
theorem LF:al ba 126=true:=by kernel_rfl
theorem HS:al ba 127=true:=by kernel_rfl
theorem LE:al ba 143=true:=by kernel_rfl
theorem LD:al ba 144=true:=by kernel_rfl
theorem LC:al ba 145=true:=by kernel_rfl
theorem LB:al ba 147=true:=by kernel_rfl
theorem LA:al ba 148=true:=by kernel_rfl
theorem Lz:al ba 149=true:=by kernel_rfl
theorem Ly:al ba 150=true:=by kernel_rfl
theorem Lx:al ba 151=true:=by kernel_rfl
theorem Lw:al ba 152=true:=by kernel_rfl
theorem Lv:al ba 153=true:=by kernel_rfl
theorem Lu:al ba 154=true:=by kernel_rfl
theorem Lt:al ba 155=true:=by kernel_rfl
theorem Ls:al ba 156=true:=by kernel_rfl
theorem Lr:al ba 157=true:=by kernel_rfl
theorem Lq:al ba 158=true:=by kernel_rfl
theorem HR:al ba 172=true:=by kernel_rfl
theorem Lo:al ba 173=true:=by kernel_rfl
theorem Ln:al ba 174=true:=by kernel_rfl
theorem Lm:al ba 175=true:=by kernel_rfl
theorem Ll:al ba 176=true:=by kernel_rfl
theorem Lk:al ba 177=true:=by kernel_rfl
theorem Lj:al ba 178=true:=by kernel_rfl
theorem Li:al ba 179=true:=by kernel_rfl
theorem Lh:al ba 192=true:=by kernel_rfl
theorem Lg:al ba 193=true:=by kernel_rfl
theorem CY:al ba 199=true:=by kernel_rfl
theorem Lf:al ba 200=true:=by kernel_rfl
theorem Le:al ba 201=true:=by kernel_rfl
theorem HQ:al ba 202=true:=by kernel_rfl
theorem HP:al ba 203=true:=by kernel_rfl
theorem Ld:al ba 204=true:=by kernel_rfl
theorem Lc:al ba 205=true:=by kernel_rfl
theorem Lb:al ba 206=true:=by kernel_rfl
theorem HO:al ba 207=true:=by kernel_rfl
theorem La:al ba 208=true:=by kernel_rfl
theorem K9:al ba 209=true:=by kernel_rfl
theorem FP:al ba 210=true:=by kernel_rfl
theorem K8:al ba 211=true:=by kernel_rfl
theorem K0:al ba 212=true:=by kernel_rfl
theorem KZ:al ba 213=true:=by kernel_rfl
theorem KY:al ba 218=true:=by kernel_rfl
theorem KX:al ba 225=true:=by kernel_rfl
theorem KW:al ba 226=true:=by kernel_rfl
theorem KV:al ba 234=true:=by kernel_rfl
theorem HN:al ba 235=true:=by kernel_rfl
theorem KU:al ba 236=true:=by kernel_rfl
theorem KT:al ba 237=true:=by kernel_rfl
theorem KS:al ba 238=true:=by kernel_rfl
theorem KR:al ba 239=true:=by kernel_rfl
theorem KQ:al ba 240=true:=by kernel_rfl
theorem KP:al ba 241=true:=by kernel_rfl
theorem KO:al ba 242=true:=by kernel_rfl
theorem KN:al ba 243=true:=by kernel_rfl
theorem KM:al ba 254=true:=by kernel_rfl
theorem KL:al ba 255=true:=by kernel_rfl
theorem KK:al ba 256=true:=by kernel_rfl
theorem KJ:al ba 257=true:=by kernel_rfl
theorem KI:al ba 265=true:=by kernel_rfl
theorem KH:al ba 273=true:=by kernel_rfl
theorem JO:ZV ba 3 (.int .i64 0):=(show(Tryz.prog.info? 3).bind (fun i=>i.zero)=some (.int .i64 0) by kernel_rfl)
theorem JU:ZV ba 138 (.nilFunc):=(show(Tryz.prog.info? 138).bind (fun i=>i.zero)=some (.nilFunc) by kernel_rfl)
theorem JT:ZV ba 223 (.nilFunc):=(show(Tryz.prog.info? 223).bind (fun i=>i.zero)=some (.nilFunc) by kernel_rfl)
theorem KB:jF ba 52 bv 2:=wo (n:=1) (fs:=[(3,0,false),(3,1,false),(3,2,false)]) (by kernel_rfl) (by kernel_rfl) rfl (Cm.cons bK rfl rfl nC (jP (po (n:=0) ku) 0) (Cm.cons bK rfl rfl ql (jP (po (n:=0) ku) 0) (Cm.cons bK rfl rfl qk (jP (po (n:=0) ku) 0) Cm.nil))) (fun x y=>by cases x;cases y;simp [Bool.decide_and])
theorem Mp:F1 ba 52 bv:=F1.of (by kernel_rfl) (jP KB 18)
theorem Jz:jF ba 128 db 2:=wo (n:=1) (fs:=[(3,0,false),(2,1,false),(126,2,false),(9,3,false)]) (by kernel_rfl) (by kernel_rfl) rfl (Cm.cons bK rfl rfl pf (jP (po (n:=0) ku) 0) (Cm.cons J9 rfl rfl rP (jP (po (n:=0) Tryz.underlying2) 0) (Cm.cons HF rfl rfl BU (jP (po (n:=0) Tryz.underlying126) 0) (Cm.cons Dp rfl rfl rO (jP (Hq (n:=0) ip) 0) Cm.nil)))) (fun x y=>by cases x;cases y;simp [Bool.decide_and])
theorem FF:F1 ba 128 db:=F1.of (by kernel_rfl) (jP Jz 18)
theorem KC:F1 ba 141 (ol (rI .i64) 2):=F1.of (by kernel_rfl) (jP (Hr (n:=1) Dg bK rfl rfl (po (n:=0) ku)) 18)
theorem w7:Cl ba 52 n9:=Mb (r:=bv) (mk:=fun p=>(⟨p.1,p.2.1,p.2.2⟩:aV)) Tryz.underlying52 rfl ku bK rfl rfl (fun p=>⟨[_],[_,_],rfl,rfl,[_],[_],rfl,rfl,rfl⟩) (fun p q h=>by obtain⟨p1,p2,p3⟩:=p;obtain⟨q1,q2,q3⟩:=q;simpa using h) Mp
theorem AA{S:SH}{cs:List Value}{y:aV}(h:bv.rc S cs y):cs=[.int .i64 y.Frag,.int .i64 y.From,.int .i64 y.To]:=by
 obtain⟨a,b,e,h1,c,d,e2,h2,h3⟩:=h
 rw [e,e2,show a=_ from h1,show c=_ from h2,show d=_ from h3]
 rfl
theorem upX:Go.Proofs.Builder.Extra ba iS:={sizeBuilder:=by kernel_rfl,liesBuilder:=by kernel_rfl,t5:=Tryz.underlying5,a5:=Tryz.isAgg5,z5:=Tryz.sizeOf5,v5:=Tryz.zeroValue5,infoByte:=by kernel_rfl,cellsByte:=by kernel_rfl,sizeByte:=by kernel_rfl,neB5:=by decide}

end Go.Proofs.YtnmjbolollcokaaGreatDoor

