/- cP of this claim: T. -/
import Derived.Test.YtbmmihfagmchaaaGreatRbD
import Derived.Test.YtbmmihfagmchaaaGreatProg
import Derived.Test.YtbmmihfagmchaaaGreatRbS
import Derived.Test.YtbmmihfagmchaaaGreatRbV4
import Derived.KernelRfl
set_option linter.all false
namespace Go.Proofs.YtbmmihfagmchaaaGreat
open Go
noncomputable abbrev bk:=Tryz.prog
def fS:= @Tryz.underlying23
def lJ:= @Tryz.underlying22
def gp:= @Tryz.underlying25
def jR:= @Tryz.underlying37
def m8:= @Tryz.underlying85
def qp:= @Tryz.underlying3
def rE:= @Tryz.underlying52
def sR:= @Tryz.underlying100
def yY:= @Tryz.underlying53
def zp:= @Tryz.underlying116
def Be:= @Tryz.underlying66
def Cs:= @Tryz.underlying142
def Dx:= @Tryz.underlying9

def mixed:Tryz.prog.follows .mixedOrders=true:=by kernel_rfl
def PC:TI bk 2 1 8 false [.int .i64 0]:=⟨by kernel_rfl,by kernel_rfl⟩
def cn:TI bk 3 1 8 false [.int .i64 0]:=⟨by kernel_rfl,by kernel_rfl⟩
def Jn:TI bk 4 1 1 false [.bool false]:=⟨by kernel_rfl,by kernel_rfl⟩
def PB:TI bk 9 1 16 false [.string ⟨#[]⟩]:=⟨by kernel_rfl,by kernel_rfl⟩
def hU:TI bk 22 1 24 false [.slice none 0 0]:=⟨by kernel_rfl,by kernel_rfl⟩
def eM:TI bk 23 1 24 false [.slice none 0 0]:=⟨by kernel_rfl,by kernel_rfl⟩
def iY:TI bk 25 1 24 false [.slice none 0 0]:=⟨by kernel_rfl,by kernel_rfl⟩
def aX:TI bk 27 1 24 true [.slice none 0 0]:=⟨by kernel_rfl,by kernel_rfl⟩
def Jo:TI bk 32 1 8 false [.nilFunc]:=⟨by kernel_rfl,by kernel_rfl⟩
def na:TI bk 37 1 24 false [.slice none 0 0]:=⟨by kernel_rfl,by kernel_rfl⟩
def cJ:TI bk 39 1 24 true [.slice none 0 0]:=⟨by kernel_rfl,by kernel_rfl⟩
def vE:TI bk 52 1 24 false [.slice none 0 0]:=⟨by kernel_rfl,by kernel_rfl⟩
def Bn:TI bk 53 1 24 false [.slice none 0 0]:=⟨by kernel_rfl,by kernel_rfl⟩
def dR:TI bk 55 12 192 true [.int .i64 0,.int .i64 0,.int .i64 0,.int .i64 0,.slice none 0 0,.bool false,.slice none 0 0,.slice none 0 0,.slice none 0 0,.slice none 0 0,.slice none 0 0,.int .i64 0]:=⟨by kernel_rfl,by kernel_rfl⟩
def Qb:TI bk 59 1 8 false [.int .u64 0]:=⟨by kernel_rfl,by kernel_rfl⟩
def pO:TI bk 61 4 40 true [.int .i64 0,.int .i64 0,.int .u64 0,.string ⟨#[]⟩]:=⟨by kernel_rfl,by kernel_rfl⟩
def eY:TI bk 63 8 72 true [.int .i64 0,.int .i64 0,.int .i64 0,.int .i64 0,.int .i64 0,.int .i64 0,.int .u64 0,.string ⟨#[]⟩]:=⟨by kernel_rfl,by kernel_rfl⟩
def H0:TI bk 66 3 72 true (List.replicate 3 (.slice none 0 0)):=⟨by kernel_rfl,by kernel_rfl⟩
def tF:TI bk 77 2 32 true [.int .i64 0,.slice none 0 0]:=⟨by kernel_rfl,by kernel_rfl⟩
def FE:TI bk 81 2 16 true [.int .i64 0,.bool false]:=⟨by kernel_rfl,by kernel_rfl⟩
def LD:TI bk 84 1 8 false [.nilFunc]:=⟨by kernel_rfl,by kernel_rfl⟩
def tE:TI bk 85 1 24 false [.slice none 0 0]:=⟨by kernel_rfl,by kernel_rfl⟩
def br:TI bk 87 14 240 true [.slice none 0 0,.int .i64 0,.int .i64 0,.int .i64 0,.int .i64 0,.slice none 0 0,.bool false,.slice none 0 0,.slice none 0 0,.slice none 0 0,.slice none 0 0,.slice none 0 0,.int .i64 0,.slice none 0 0]:=⟨by kernel_rfl,by kernel_rfl⟩
def nH:TI bk 96 1 8 false [.pointer none]:=⟨by kernel_rfl,by kernel_rfl⟩
def qw:TI bk 100 1 24 false [.slice none 0 0]:=⟨by kernel_rfl,by kernel_rfl⟩
def Qc:TI bk 102 3 72 true [.slice none 0 0,.slice none 0 0,.slice none 0 0]:=⟨by kernel_rfl,by kernel_rfl⟩
def wx:TI bk 116 2 16 true (List.replicate 2 (.int .i64 0)):=⟨by kernel_rfl,by kernel_rfl⟩
def dk:cG bk 27 0=some (0,1):=by kernel_rfl
def fY:cG bk 39 0=some (0,1):=by kernel_rfl
def nk:cG bk 55 0=some (0,1):=by kernel_rfl
def j6:cG bk 55 1=some (1,1):=by kernel_rfl
def pT:cG bk 55 2=some (2,1):=by kernel_rfl
def AE:cG bk 55 3=some (3,1):=by kernel_rfl
def rX:cG bk 55 4=some (4,1):=by kernel_rfl
def C0:cG bk 55 5=some (5,1):=by kernel_rfl
def kN:cG bk 55 6=some (6,1):=by kernel_rfl
def qT:cG bk 55 7=some (7,1):=by kernel_rfl
def nj:cG bk 55 8=some (8,1):=by kernel_rfl
def kM:cG bk 55 9=some (9,1):=by kernel_rfl
def rn:cG bk 55 10=some (10,1):=by kernel_rfl
def zi:cG bk 55 11=some (11,1):=by kernel_rfl
def xX:cG bk 61 0=some (0,1):=by kernel_rfl
def AD:cG bk 61 1=some (1,1):=by kernel_rfl
def OO:cG bk 61 2=some (2,1):=by kernel_rfl
def Gm:cG bk 61 3=some (3,1):=by kernel_rfl
def lv:cG bk 63 0=some (0,1):=by kernel_rfl
def oc:cG bk 63 1=some (1,1):=by kernel_rfl
def oa:cG bk 63 2=some (2,1):=by kernel_rfl
def oW:cG bk 63 3=some (3,1):=by kernel_rfl
def xW:cG bk 63 4=some (4,4):=by kernel_rfl
def Gl:cG bk 77 0=some (0,1):=by kernel_rfl
def we:cG bk 77 1=some (1,1):=by kernel_rfl
def Kl:cG bk 81 0=some (0,1):=by kernel_rfl
def xV:cG bk 87 0=some (0,1):=by kernel_rfl
def iy:cG bk 87 1=some (1,12):=by kernel_rfl
def lu:cG bk 87 2=some (13,1):=by kernel_rfl
def C1:cG bk 102 0=some (0,1):=by kernel_rfl
def lG:cG bk 102 1=some (1,1):=by kernel_rfl
def ro:cG bk 102 2=some (2,1):=by kernel_rfl
def u9:n9 bk 27=some [(0,1)]:=by kernel_rfl
def CW:n9 bk 39=some [(0,1)]:=by kernel_rfl
def EL:n9 bk 55=some [(0,1),(1,1),(2,1),(3,1),(4,1),(5,1),(6,1),(7,1),(8,1),(9,1),(10,1),(11,1)]:=by kernel_rfl
def Kf:n9 bk 61=some [(0,1),(1,1),(2,1),(3,1)]:=by kernel_rfl
def EK:n9 bk 63=some [(0,1),(1,1),(2,1),(3,1),(4,4)]:=by kernel_rfl
def OK:n9 bk 87=some [(0,1),(1,12),(13,1)]:=by kernel_rfl
def Qs:n9 bk 102=some [(0,1),(1,1),(2,1)]:=by kernel_rfl
def cb6:al bk 6=true:=by kernel_rfl
def Sp:al bk 7=true:=by kernel_rfl
def SL:al bk 12=true:=by kernel_rfl
def Rh:al bk 13=true:=by kernel_rfl
def SK:al bk 14=true:=by kernel_rfl
def Ps:al bk 16=true:=by kernel_rfl
def QZ:al bk 17=true:=by kernel_rfl
def QY:al bk 18=true:=by kernel_rfl
def QX:al bk 19=true:=by kernel_rfl
def QW:al bk 20=true:=by kernel_rfl
def SJ:al bk 21=true:=by kernel_rfl
def Pr:al bk 22=true:=by kernel_rfl
def SI:al bk 23=true:=by kernel_rfl
def KX:al bk 24=true:=by kernel_rfl
def SG:al bk 25=true:=by kernel_rfl
def SF:al bk 30=true:=by kernel_rfl
def QV:al bk 31=true:=by kernel_rfl
def SE:al bk 32=true:=by kernel_rfl
def SD:al bk 33=true:=by kernel_rfl
def SC:al bk 34=true:=by kernel_rfl
def IJ:al bk 35=true:=by kernel_rfl
def QU:al bk 36=true:=by kernel_rfl
def KW:al bk 37=true:=by kernel_rfl
def QT:al bk 38=true:=by kernel_rfl
def Pq:al bk 39=true:=by kernel_rfl
def QS:al bk 40=true:=by kernel_rfl
def Pp:al bk 43=true:=by kernel_rfl
def KV:al bk 44=true:=by kernel_rfl
def SB:al bk 45=true:=by kernel_rfl
def Nh:al bk 46=true:=by kernel_rfl
def SA:al bk 47=true:=by kernel_rfl
def QR:al bk 48=true:=by kernel_rfl
def Sz:al bk 49=true:=by kernel_rfl
def QQ:al bk 50=true:=by kernel_rfl
def QP:al bk 51=true:=by kernel_rfl
def GF:al bk 52=true:=by kernel_rfl
def Sy:al bk 53=true:=by kernel_rfl
def QO:al bk 54=true:=by kernel_rfl
def Sx:al bk 55=true:=by kernel_rfl
def Po:al bk 56=true:=by kernel_rfl
def Sw:al bk 57=true:=by kernel_rfl
def Sv:al bk 62=true:=by kernel_rfl
def Su:al bk 63=true:=by kernel_rfl
def Sr:al bk 64=true:=by kernel_rfl
def Sq:al bk 65=true:=by kernel_rfl
def So:al bk 71=true:=by kernel_rfl
def Sn:al bk 72=true:=by kernel_rfl
def Sl:al bk 73=true:=by kernel_rfl
def QN:al bk 74=true:=by kernel_rfl
def Sk:al bk 75=true:=by kernel_rfl
def Sj:al bk 76=true:=by kernel_rfl
def Ng:al bk 79=true:=by kernel_rfl
def Si:al bk 80=true:=by kernel_rfl
def GE:al bk 81=true:=by kernel_rfl
def QM:al bk 84=true:=by kernel_rfl
def Pn:al bk 85=true:=by kernel_rfl
def Sh:al bk 86=true:=by kernel_rfl
def Sf:al bk 87=true:=by kernel_rfl
def Sd:al bk 88=true:=by kernel_rfl
def Sc:al bk 90=true:=by kernel_rfl
def Sb:al bk 91=true:=by kernel_rfl
def Sa:al bk 92=true:=by kernel_rfl
def R9:al bk 93=true:=by kernel_rfl
def R8:al bk 94=true:=by kernel_rfl
def R7:al bk 95=true:=by kernel_rfl
def R6:al bk 96=true:=by kernel_rfl
def R5:al bk 97=true:=by kernel_rfl
def R4:al bk 98=true:=by kernel_rfl
def R2:al bk 99=true:=by kernel_rfl
def Rv:al bk 100=true:=by kernel_rfl
def Ru:al bk 101=true:=by kernel_rfl
def Rt:al bk 102=true:=by kernel_rfl
def Rs:al bk 114=true:=by kernel_rfl
def Rr:al bk 116=true:=by kernel_rfl
def Rq:al bk 117=true:=by kernel_rfl
def NY:al bk 118=true:=by kernel_rfl
def Ro:al bk 119=true:=by kernel_rfl
def NX:al bk 120=true:=by kernel_rfl
def KZ:al bk 121=true:=by kernel_rfl
def Rn:al bk 122=true:=by kernel_rfl
def Rm:al bk 123=true:=by kernel_rfl
def Rl:al bk 124=true:=by kernel_rfl
def Rk:al bk 125=true:=by kernel_rfl
def Rj:al bk 126=true:=by kernel_rfl
def NW:al bk 127=true:=by kernel_rfl
def Ri:al bk 128=true:=by kernel_rfl
def NV:al bk 129=true:=by kernel_rfl
def Rg:al bk 130=true:=by kernel_rfl
def Rf:al bk 131=true:=by kernel_rfl
def KY:al bk 132=true:=by kernel_rfl
def Re:al bk 133=true:=by kernel_rfl
def Rd:al bk 134=true:=by kernel_rfl
def Rc:al bk 135=true:=by kernel_rfl
def Rb:al bk 142=true:=by kernel_rfl
def NU:al bk 143=true:=by kernel_rfl
def NT:al bk 144=true:=by kernel_rfl
def NR:al bk 145=true:=by kernel_rfl
def Ra:al bk 146=true:=by kernel_rfl
def Q9:al bk 147=true:=by kernel_rfl
def Q8:al bk 148=true:=by kernel_rfl
def Q7:al bk 149=true:=by kernel_rfl
def Q6:al bk 150=true:=by kernel_rfl
def Q5:al bk 151=true:=by kernel_rfl
def Q4:al bk 152=true:=by kernel_rfl
def Q3:al bk 153=true:=by kernel_rfl
def Q2:al bk 155=true:=by kernel_rfl
def Q1:al bk 156=true:=by kernel_rfl
def NQ:al bk 157=true:=by kernel_rfl
def Q0:al bk 158=true:=by kernel_rfl
def zv4:ZV bk 4 (.bool false):=(show(Tryz.prog.info? 4).bind (fun i=>i.zero)=some (.bool false) by kernel_rfl)
def RN:ZV bk 93 (.nilFunc):=(show(Tryz.prog.info? 93).bind (fun i=>i.zero)=some (.nilFunc) by kernel_rfl)
def PI:ZV bk 141 (.nilFunc):=(show(Tryz.prog.info? 141).bind (fun i=>i.zero)=some (.nilFunc) by kernel_rfl)
def NO:lH bk 61 dr 2:=AK (n:=1) (fs:=[(3,0,false),(2,1,false),(59,2,false),(9,3,false)]) (by kernel_rfl) (by kernel_rfl) rfl (Fi.cons cn rfl rfl s9 (kY (rt (n:=0) qp) 0) (Fi.cons PC rfl rfl wc (kY (rt (n:=0) Tryz.underlying2) 0) (Fi.cons Qb rfl rfl Gi (kY (rt (n:=0) Tryz.underlying59) 0) (Fi.cons PB rfl rfl s8 (kY (MT (n:=0) Dx) 0) Fi.nil)))) (fun x y=>by cases x;cases y;simp [Bool.decide_and])
def MW:Lp bk 61 dr:=Lp.of (by kernel_rfl) (kY NO 18)
def QG:lH bk 63 ap 3:=AK (n:=2) (fs:=[(3,0,false),(3,1,false),(3,2,false),(3,3,false),(61,4,false)]) (by kernel_rfl) (by kernel_rfl) rfl (Fi.cons cn rfl rfl ep (kY (rt (n:=0) qp) 1) (Fi.cons cn rfl rfl kK (kY (rt (n:=0) qp) 1) (Fi.cons cn rfl rfl kI (kY (rt (n:=0) qp) 1) (Fi.cons cn rfl rfl gY (kY (rt (n:=0) qp) 1) (Fi.cons pO rfl rfl kH (kY NO 0) Fi.nil))))) (fun x y=>by cases x;cases y;simp [Bool.decide_and])
def R0:Lp bk 63 ap:=Lp.of (by kernel_rfl) (kY QG 17)
def QH:Lp bk 116 (nK (rI .i64) 2):=Lp.of (by kernel_rfl) (kY (MU (n:=1) zp cn rfl rfl (rt (n:=0) qp)) 18)

end Go.Proofs.YtbmmihfagmchaaaGreat

