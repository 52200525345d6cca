/- cW of this claim: T. -/
import Derived.Test.YtbmmihfagmchaaaGreatRcD
import Derived.Test.YtbmmihfagmchaaaGreatProg
import Derived.Test.YtbmmihfagmchaaaGreatRcS
import Derived.Test.YtbmmihfagmchaaaGreatRcV4
import Derived.KernelRfl
set_option linter.all false
namespace Go.Proofs.YtbmmihfagmchaaaGreat
open Go
noncomputable abbrev bh:=Tryz.prog
def gr:= @Tryz.underlying23
def kX:= @Tryz.underlying22
def na:= @Tryz.underlying25
def jW:= @Tryz.underlying37
def ni:= @Tryz.underlying85
def qc:= @Tryz.underlying52
def qb:= @Tryz.underlying3
def sY:= @Tryz.underlying100
def t7:= @Tryz.underlying53
def zt:= @Tryz.underlying116
def Bl:= @Tryz.underlying66
def Cz:= @Tryz.underlying142
def DE:= @Tryz.underlying9
def Jh:= @Tryz.underlying4

def mixed:Tryz.prog.follows .mixedOrders=true:=by kernel_rfl
def PF:TI bh 2 1 8 false [.int .i64 0]:=⟨by kernel_rfl,by kernel_rfl⟩
def ck:TI bh 3 1 8 false [.int .i64 0]:=⟨by kernel_rfl,by kernel_rfl⟩
def G8:TI bh 4 1 1 false [.bool false]:=⟨by kernel_rfl,by kernel_rfl⟩
def PE:TI bh 9 1 16 false [.string ⟨#[]⟩]:=⟨by kernel_rfl,by kernel_rfl⟩
def hZ:TI bh 22 1 24 false [.slice none 0 0]:=⟨by kernel_rfl,by kernel_rfl⟩
def eK:TI bh 23 1 24 false [.slice none 0 0]:=⟨by kernel_rfl,by kernel_rfl⟩
def iU:TI bh 25 1 24 false [.slice none 0 0]:=⟨by kernel_rfl,by kernel_rfl⟩
def aU:TI bh 27 1 24 true [.slice none 0 0]:=⟨by kernel_rfl,by kernel_rfl⟩
def nk:TI bh 37 1 24 false [.slice none 0 0]:=⟨by kernel_rfl,by kernel_rfl⟩
def cQ:TI bh 39 1 24 true [.slice none 0 0]:=⟨by kernel_rfl,by kernel_rfl⟩
def vk:TI bh 52 1 24 false [.slice none 0 0]:=⟨by kernel_rfl,by kernel_rfl⟩
def y4:TI bh 53 1 24 false [.slice none 0 0]:=⟨by kernel_rfl,by kernel_rfl⟩
def dV:TI bh 55 12 192 true [.int .i64 0,.int .i64 0,.int .i64 0,.int .i64 0,.slice none 0 0,.bool false,.slice none 0 0,.slice none 0 0,.slice none 0 0,.slice none 0 0,.slice none 0 0,.int .i64 0]:=⟨by kernel_rfl,by kernel_rfl⟩
def Qe:TI bh 59 1 8 false [.int .u64 0]:=⟨by kernel_rfl,by kernel_rfl⟩
def pU:TI bh 61 4 40 true [.int .i64 0,.int .i64 0,.int .u64 0,.string ⟨#[]⟩]:=⟨by kernel_rfl,by kernel_rfl⟩
def fc:TI bh 63 8 72 true [.int .i64 0,.int .i64 0,.int .i64 0,.int .i64 0,.int .i64 0,.int .i64 0,.int .u64 0,.string ⟨#[]⟩]:=⟨by kernel_rfl,by kernel_rfl⟩
def H6:TI bh 66 3 72 true (List.replicate 3 (.slice none 0 0)):=⟨by kernel_rfl,by kernel_rfl⟩
def qf:TI bh 77 2 32 true [.int .i64 0,.slice none 0 0]:=⟨by kernel_rfl,by kernel_rfl⟩
def zQ:TI bh 81 2 16 true [.int .i64 0,.bool false]:=⟨by kernel_rfl,by kernel_rfl⟩
def LA:TI bh 84 1 8 false [.nilFunc]:=⟨by kernel_rfl,by kernel_rfl⟩
def tP:TI bh 85 1 24 false [.slice none 0 0]:=⟨by kernel_rfl,by kernel_rfl⟩
def br:TI bh 87 14 240 true [.slice none 0 0,.int .i64 0,.int .i64 0,.int .i64 0,.int .i64 0,.slice none 0 0,.bool false,.slice none 0 0,.slice none 0 0,.slice none 0 0,.slice none 0 0,.slice none 0 0,.int .i64 0,.slice none 0 0]:=⟨by kernel_rfl,by kernel_rfl⟩
def nO:TI bh 96 1 8 false [.pointer none]:=⟨by kernel_rfl,by kernel_rfl⟩
def qG:TI bh 100 1 24 false [.slice none 0 0]:=⟨by kernel_rfl,by kernel_rfl⟩
def Qf:TI bh 102 3 72 true [.slice none 0 0,.slice none 0 0,.slice none 0 0]:=⟨by kernel_rfl,by kernel_rfl⟩
def wG:TI bh 116 2 16 true (List.replicate 2 (.int .i64 0)):=⟨by kernel_rfl,by kernel_rfl⟩
def dq:cP bh 27 0=some (0,1):=by kernel_rfl
def gq:cP bh 39 0=some (0,1):=by kernel_rfl
def mP:cP bh 55 0=some (0,1):=by kernel_rfl
def jz:cP bh 55 1=some (1,1):=by kernel_rfl
def ol:cP bh 55 2=some (2,1):=by kernel_rfl
def yd:cP bh 55 3=some (3,1):=by kernel_rfl
def pY:cP bh 55 4=some (4,1):=by kernel_rfl
def yc:cP bh 55 5=some (5,1):=by kernel_rfl
def ki:cP bh 55 6=some (6,1):=by kernel_rfl
def o0:cP bh 55 7=some (7,1):=by kernel_rfl
def mO:cP bh 55 8=some (8,1):=by kernel_rfl
def kh:cP bh 55 9=some (9,1):=by kernel_rfl
def po:cP bh 55 10=some (10,1):=by kernel_rfl
def u8:cP bh 55 11=some (11,1):=by kernel_rfl
def yb:cP bh 61 0=some (0,1):=by kernel_rfl
def AJ:cP bh 61 1=some (1,1):=by kernel_rfl
def OL:cP bh 61 2=some (2,1):=by kernel_rfl
def Gr:cP bh 61 3=some (3,1):=by kernel_rfl
def lF:cP bh 63 0=some (0,1):=by kernel_rfl
def oj:cP bh 63 1=some (1,1):=by kernel_rfl
def oh:cP bh 63 2=some (2,1):=by kernel_rfl
def oZ:cP bh 63 3=some (3,1):=by kernel_rfl
def ya:cP bh 63 4=some (4,4):=by kernel_rfl
def C9:cP bh 77 0=some (0,1):=by kernel_rfl
def uI:cP bh 77 1=some (1,1):=by kernel_rfl
def Kj:cP bh 81 0=some (0,1):=by kernel_rfl
def x9:cP bh 87 0=some (0,1):=by kernel_rfl
def iG:cP bh 87 1=some (1,12):=by kernel_rfl
def lE:cP bh 87 2=some (13,1):=by kernel_rfl
def Da:cP bh 102 0=some (0,1):=by kernel_rfl
def lN:cP bh 102 1=some (1,1):=by kernel_rfl
def rG:cP bh 102 2=some (2,1):=by kernel_rfl
def vp:oe bh 27=some [(0,1)]:=by kernel_rfl
def C5:oe bh 39=some [(0,1)]:=by kernel_rfl
def EQ:oe bh 55=some [(0,1),(1,1),(2,1),(3,1),(4,1),(5,1),(6,1),(7,1),(8,1),(9,1),(10,1),(11,1)]:=by kernel_rfl
def J9:oe bh 61=some [(0,1),(1,1),(2,1),(3,1)]:=by kernel_rfl
def EP:oe bh 63=some [(0,1),(1,1),(2,1),(3,1),(4,4)]:=by kernel_rfl
def OG:oe bh 87=some [(0,1),(1,12),(13,1)]:=by kernel_rfl
def Qu:oe bh 102=some [(0,1),(1,1),(2,1)]:=by kernel_rfl
def cb6:al bh 6=true:=by kernel_rfl
def Su:al bh 7=true:=by kernel_rfl
def ST:al bh 12=true:=by kernel_rfl
def Pv:al bh 13=true:=by kernel_rfl
def Rd:al bh 14=true:=by kernel_rfl
def Q7:al bh 15=true:=by kernel_rfl
def SS:al bh 16=true:=by kernel_rfl
def QZ:al bh 17=true:=by kernel_rfl
def QY:al bh 20=true:=by kernel_rfl
def SR:al bh 21=true:=by kernel_rfl
def Pu:al bh 22=true:=by kernel_rfl
def SQ:al bh 23=true:=by kernel_rfl
def KT:al bh 24=true:=by kernel_rfl
def SP:al bh 25=true:=by kernel_rfl
def SO:al bh 30=true:=by kernel_rfl
def QX:al bh 31=true:=by kernel_rfl
def SN:al bh 32=true:=by kernel_rfl
def SM:al bh 33=true:=by kernel_rfl
def SL:al bh 34=true:=by kernel_rfl
def Nb:al bh 35=true:=by kernel_rfl
def QW:al bh 36=true:=by kernel_rfl
def KR:al bh 37=true:=by kernel_rfl
def QV:al bh 38=true:=by kernel_rfl
def Pt:al bh 39=true:=by kernel_rfl
def QU:al bh 40=true:=by kernel_rfl
def SK:al bh 41=true:=by kernel_rfl
def SJ:al bh 42=true:=by kernel_rfl
def Ps:al bh 43=true:=by kernel_rfl
def KQ:al bh 44=true:=by kernel_rfl
def Pr:al bh 46=true:=by kernel_rfl
def SI:al bh 48=true:=by kernel_rfl
def SG:al bh 50=true:=by kernel_rfl
def SF:al bh 51=true:=by kernel_rfl
def GL:al bh 52=true:=by kernel_rfl
def SE:al bh 53=true:=by kernel_rfl
def QT:al bh 54=true:=by kernel_rfl
def SD:al bh 55=true:=by kernel_rfl
def Pq:al bh 56=true:=by kernel_rfl
def SC:al bh 57=true:=by kernel_rfl
def SB:al bh 62=true:=by kernel_rfl
def SA:al bh 63=true:=by kernel_rfl
def Sz:al bh 64=true:=by kernel_rfl
def Sy:al bh 65=true:=by kernel_rfl
def Sx:al bh 66=true:=by kernel_rfl
def Pp:al bh 67=true:=by kernel_rfl
def Sw:al bh 68=true:=by kernel_rfl
def Sv:al bh 69=true:=by kernel_rfl
def Sr:al bh 70=true:=by kernel_rfl
def Sq:al bh 71=true:=by kernel_rfl
def Sp:al bh 72=true:=by kernel_rfl
def So:al bh 73=true:=by kernel_rfl
def QS:al bh 74=true:=by kernel_rfl
def Sn:al bh 75=true:=by kernel_rfl
def Na:al bh 79=true:=by kernel_rfl
def Sl:al bh 80=true:=by kernel_rfl
def GK:al bh 81=true:=by kernel_rfl
def QR:al bh 84=true:=by kernel_rfl
def Po:al bh 85=true:=by kernel_rfl
def Sk:al bh 86=true:=by kernel_rfl
def Sj:al bh 87=true:=by kernel_rfl
def Si:al bh 88=true:=by kernel_rfl
def Sh:al bh 89=true:=by kernel_rfl
def Sf:al bh 90=true:=by kernel_rfl
def Sd:al bh 91=true:=by kernel_rfl
def Sc:al bh 92=true:=by kernel_rfl
def Sb:al bh 93=true:=by kernel_rfl
def Sa:al bh 94=true:=by kernel_rfl
def R9:al bh 95=true:=by kernel_rfl
def R8:al bh 96=true:=by kernel_rfl
def R7:al bh 97=true:=by kernel_rfl
def R6:al bh 98=true:=by kernel_rfl
def R5:al bh 99=true:=by kernel_rfl
def Rw:al bh 100=true:=by kernel_rfl
def Rv:al bh 101=true:=by kernel_rfl
def Ru:al bh 102=true:=by kernel_rfl
def Rt:al bh 114=true:=by kernel_rfl
def Rs:al bh 116=true:=by kernel_rfl
def Rr:al bh 117=true:=by kernel_rfl
def NR:al bh 118=true:=by kernel_rfl
def Rq:al bh 119=true:=by kernel_rfl
def NQ:al bh 120=true:=by kernel_rfl
def KV:al bh 121=true:=by kernel_rfl
def Ro:al bh 122=true:=by kernel_rfl
def Rn:al bh 123=true:=by kernel_rfl
def Rm:al bh 124=true:=by kernel_rfl
def Rl:al bh 125=true:=by kernel_rfl
def Rk:al bh 126=true:=by kernel_rfl
def NP:al bh 127=true:=by kernel_rfl
def Rj:al bh 128=true:=by kernel_rfl
def NO:al bh 129=true:=by kernel_rfl
def Ri:al bh 130=true:=by kernel_rfl
def Rh:al bh 131=true:=by kernel_rfl
def KU:al bh 132=true:=by kernel_rfl
def Rg:al bh 133=true:=by kernel_rfl
def Rf:al bh 134=true:=by kernel_rfl
def Re:al bh 135=true:=by kernel_rfl
def Rc:al bh 142=true:=by kernel_rfl
def NN:al bh 143=true:=by kernel_rfl
def NM:al bh 144=true:=by kernel_rfl
def NL:al bh 145=true:=by kernel_rfl
def Rb:al bh 146=true:=by kernel_rfl
def Ra:al bh 147=true:=by kernel_rfl
def Q9:al bh 148=true:=by kernel_rfl
def Q8:al bh 149=true:=by kernel_rfl
def Q6:al bh 150=true:=by kernel_rfl
def Q5:al bh 151=true:=by kernel_rfl
def Q4:al bh 152=true:=by kernel_rfl
def Q3:al bh 153=true:=by kernel_rfl
def Q2:al bh 155=true:=by kernel_rfl
def Q1:al bh 156=true:=by kernel_rfl
def NK:al bh 157=true:=by kernel_rfl
def Q0:al bh 158=true:=by kernel_rfl
def zv4:ZV bh 4 (.bool false):=(show(Tryz.prog.info? 4).bind (fun i=>i.zero)=some (.bool false) by kernel_rfl)
def RQ:ZV bh 93 (.nilFunc):=(show(Tryz.prog.info? 93).bind (fun i=>i.zero)=some (.nilFunc) by kernel_rfl)
def PL:ZV bh 141 (.nilFunc):=(show(Tryz.prog.info? 141).bind (fun i=>i.zero)=some (.nilFunc) by kernel_rfl)
def NH:jM bh 61 dA 2:=wq (n:=1) (fs:=[(3,0,false),(2,1,false),(59,2,false),(9,3,false)]) (by kernel_rfl) (by kernel_rfl) rfl (Ct.cons ck rfl rfl tk (jr (qo (n:=0) qb) 0) (Ct.cons PF rfl rfl wo (jr (qo (n:=0) Tryz.underlying2) 0) (Ct.cons Qe rfl rfl Gm (jr (qo (n:=0) Tryz.underlying59) 0) (Ct.cons PE rfl rfl th (jr (MP (n:=0) DE) 0) Ct.nil)))) (fun x y=>by cases x;cases y;simp [Bool.decide_and])
def MR:Jg bh 61 dA:=Jg.of (by kernel_rfl) (jr NH 18)
def QK:jM bh 63 ap 3:=wq (n:=2) (fs:=[(3,0,false),(3,1,false),(3,2,false),(3,3,false),(61,4,false)]) (by kernel_rfl) (by kernel_rfl) rfl (Ct.cons ck rfl rfl eH (jr (qo (n:=0) qb) 1) (Ct.cons ck rfl rfl kU (jr (qo (n:=0) qb) 1) (Ct.cons ck rfl rfl kT (jr (qo (n:=0) qb) 1) (Ct.cons ck rfl rfl ie (jr (qo (n:=0) qb) 1) (Ct.cons pU rfl rfl kS (jr NH 0) Ct.nil))))) (fun x y=>by cases x;cases y;simp [Bool.decide_and])
def QL:Jg bh 63 ap:=Jg.of (by kernel_rfl) (jr QK 17)
def QJ:jM bh 81 eQ 2:=wq (n:=1) (fs:=[(3,0,false),(4,1,false)]) (by kernel_rfl) (by kernel_rfl) rfl (Ct.cons ck rfl rfl AG (jr (qo (n:=0) qb) 0) (Ct.cons G8 rfl rfl Ke (jr (KG (n:=0) Jh) 0) Ct.nil)) (fun x y=>by cases x;cases y;simp [Bool.decide_and])
def R2:Jg bh 81 eQ:=Jg.of (by kernel_rfl) (jr QJ 18)
def QM:Jg bh 116 (nQ (rI .i64) 2):=Jg.of (by kernel_rfl) (jr (MQ (n:=1) zt ck rfl rfl (qo (n:=0) qb)) 18)

end Go.Proofs.YtbmmihfagmchaaaGreat

