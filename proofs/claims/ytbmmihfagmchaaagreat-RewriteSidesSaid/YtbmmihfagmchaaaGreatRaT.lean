/- db of this claim: T. -/
import Derived.Test.YtbmmihfagmchaaaGreatRaD
import Derived.Test.YtbmmihfagmchaaaGreatProg
import Derived.Test.YtbmmihfagmchaaaGreatRaS
import Derived.Test.YtbmmihfagmchaaaGreatRaV4
import Derived.KernelRfl
set_option linter.all false
namespace Go.Proofs.YtbmmihfagmchaaaGreat
open Go
noncomputable abbrev bf:=Tryz.prog
def ed:= @Tryz.underlying23
def gx:= @Tryz.underlying22
def hM:= @Tryz.underlying25
def kb:= @Tryz.underlying85
def kZ:= @Tryz.underlying37
def mL:= @Tryz.underlying3
def nj:= @Tryz.underlying66
def oy:= @Tryz.underlying100
def tL:= @Tryz.underlying116
def tJ:= @Tryz.underlying52
def wx:= @Tryz.underlying142
def y9:= @Tryz.underlying53
def AY:= @Tryz.underlying9

def mixed:Tryz.prog.follows .mixedOrders=true:=by kernel_rfl
def DZ:TI bf 2 1 8 false [.int .i64 0]:=⟨by kernel_rfl,by kernel_rfl⟩
def bR:TI bf 3 1 8 false [.int .i64 0]:=⟨by kernel_rfl,by kernel_rfl⟩
def Ci:TI bf 4 1 1 false [.bool false]:=⟨by kernel_rfl,by kernel_rfl⟩
def DC:TI bf 9 1 16 false [.string ⟨#[]⟩]:=⟨by kernel_rfl,by kernel_rfl⟩
def dC:TI bf 22 1 24 false [.slice none 0 0]:=⟨by kernel_rfl,by kernel_rfl⟩
def dJ:TI bf 23 1 24 false [.slice none 0 0]:=⟨by kernel_rfl,by kernel_rfl⟩
def ee:TI bf 25 1 24 false [.slice none 0 0]:=⟨by kernel_rfl,by kernel_rfl⟩
def aL:TI bf 27 1 24 true [.slice none 0 0]:=⟨by kernel_rfl,by kernel_rfl⟩
def lY:TI bf 37 1 24 false [.slice none 0 0]:=⟨by kernel_rfl,by kernel_rfl⟩
def cV:TI bf 39 1 24 true [.slice none 0 0]:=⟨by kernel_rfl,by kernel_rfl⟩
def vo:TI bf 52 1 24 false [.slice none 0 0]:=⟨by kernel_rfl,by kernel_rfl⟩
def Be:TI bf 53 1 24 false [.slice none 0 0]:=⟨by kernel_rfl,by kernel_rfl⟩
def dK:TI bf 55 12 192 true [.int .i64 0,.int .i64 0,.int .i64 0,.int .i64 0,.slice none 0 0,.bool false,.slice none 0 0,.slice none 0 0,.slice none 0 0,.slice none 0 0,.slice none 0 0,.int .i64 0]:=⟨by kernel_rfl,by kernel_rfl⟩
def Ch:TI bf 59 1 8 false [.int .u64 0]:=⟨by kernel_rfl,by kernel_rfl⟩
def jM:TI bf 61 4 40 true [.int .i64 0,.int .i64 0,.int .u64 0,.string ⟨#[]⟩]:=⟨by kernel_rfl,by kernel_rfl⟩
def cO:TI bf 63 8 72 true [.int .i64 0,.int .i64 0,.int .i64 0,.int .i64 0,.int .i64 0,.int .i64 0,.int .u64 0,.string ⟨#[]⟩]:=⟨by kernel_rfl,by kernel_rfl⟩
def wF:TI bf 66 3 72 true (List.replicate 3 (.slice none 0 0)):=⟨by kernel_rfl,by kernel_rfl⟩
def xQ:TI bf 77 2 32 true [.int .i64 0,.slice none 0 0]:=⟨by kernel_rfl,by kernel_rfl⟩
def DY:TI bf 81 2 16 true [.int .i64 0,.bool false]:=⟨by kernel_rfl,by kernel_rfl⟩
def DX:TI bf 84 1 8 false [.nilFunc]:=⟨by kernel_rfl,by kernel_rfl⟩
def pf:TI bf 85 1 24 false [.slice none 0 0]:=⟨by kernel_rfl,by kernel_rfl⟩
def bo:TI bf 87 14 240 true [.slice none 0 0,.int .i64 0,.int .i64 0,.int .i64 0,.int .i64 0,.slice none 0 0,.bool false,.slice none 0 0,.slice none 0 0,.slice none 0 0,.slice none 0 0,.slice none 0 0,.int .i64 0,.slice none 0 0]:=⟨by kernel_rfl,by kernel_rfl⟩
def kD:TI bf 96 1 8 false [.pointer none]:=⟨by kernel_rfl,by kernel_rfl⟩
def mN:TI bf 100 1 24 false [.slice none 0 0]:=⟨by kernel_rfl,by kernel_rfl⟩
def G0:TI bf 102 3 72 true [.slice none 0 0,.slice none 0 0,.slice none 0 0]:=⟨by kernel_rfl,by kernel_rfl⟩
def rg:TI bf 116 2 16 true (List.replicate 2 (.int .i64 0)):=⟨by kernel_rfl,by kernel_rfl⟩
def bZ:co bf 27 0=some (0,1):=by kernel_rfl
def fv:co bf 39 0=some (0,1):=by kernel_rfl
def kP:co bf 55 0=some (0,1):=by kernel_rfl
def g9:co bf 55 1=some (1,1):=by kernel_rfl
def mo:co bf 55 2=some (2,1):=by kernel_rfl
def w9:co bf 55 3=some (3,1):=by kernel_rfl
def pM:co bf 55 4=some (4,1):=by kernel_rfl
def w8:co bf 55 5=some (5,1):=by kernel_rfl
def jS:co bf 55 6=some (6,1):=by kernel_rfl
def oT:co bf 55 7=some (7,1):=by kernel_rfl
def n7:co bf 55 8=some (8,1):=by kernel_rfl
def kO:co bf 55 9=some (9,1):=by kernel_rfl
def p8:co bf 55 10=some (10,1):=by kernel_rfl
def tG:co bf 55 11=some (11,1):=by kernel_rfl
def oS:co bf 61 0=some (0,1):=by kernel_rfl
def pL:co bf 61 1=some (1,1):=by kernel_rfl
def w7:co bf 61 2=some (2,1):=by kernel_rfl
def qS:co bf 61 3=some (3,1):=by kernel_rfl
def fW:co bf 63 0=some (0,1):=by kernel_rfl
def gH:co bf 63 1=some (1,1):=by kernel_rfl
def gG:co bf 63 2=some (2,1):=by kernel_rfl
def gZ:co bf 63 3=some (3,1):=by kernel_rfl
def oR:co bf 63 4=some (4,4):=by kernel_rfl
def CN:co bf 77 0=some (0,1):=by kernel_rfl
def wZ:co bf 77 1=some (1,1):=by kernel_rfl
def CM:co bf 81 0=some (0,1):=by kernel_rfl
def sy:co bf 87 0=some (0,1):=by kernel_rfl
def fd:co bf 87 1=some (1,12):=by kernel_rfl
def iO:co bf 87 2=some (13,1):=by kernel_rfl
def xa:co bf 102 0=some (0,1):=by kernel_rfl
def iX:co bf 102 1=some (1,1):=by kernel_rfl
def nK:co bf 102 2=some (2,1):=by kernel_rfl
def pg:kN bf 27=some [(0,1)]:=by kernel_rfl
def yF:kN bf 39=some [(0,1)]:=by kernel_rfl
def yE:kN bf 55=some [(0,1),(1,1),(2,1),(3,1),(4,1),(5,1),(6,1),(7,1),(8,1),(9,1),(10,1),(11,1)]:=by kernel_rfl
def yD:kN bf 61=some [(0,1),(1,1),(2,1),(3,1)]:=by kernel_rfl
def yC:kN bf 63=some [(0,1),(1,1),(2,1),(3,1),(4,4)]:=by kernel_rfl
def FS:kN bf 87=some [(0,1),(1,12),(13,1)]:=by kernel_rfl
def G7:kN bf 102=some [(0,1),(1,1),(2,1)]:=by kernel_rfl
def cb6:ah bf 6=true:=by kernel_rfl
def cb7:ah bf 7=true:=by kernel_rfl
def cb8:ah bf 8=true:=by kernel_rfl
def cb9:ah bf 9=true:=by kernel_rfl
def Jh:ah bf 10=true:=by kernel_rfl
def GC:ah bf 11=true:=by kernel_rfl
def Jg:ah bf 13=true:=by kernel_rfl
def Jf:ah bf 14=true:=by kernel_rfl
def Je:ah bf 16=true:=by kernel_rfl
def HD:ah bf 20=true:=by kernel_rfl
def HC:ah bf 21=true:=by kernel_rfl
def GB:ah bf 22=true:=by kernel_rfl
def Jd:ah bf 23=true:=by kernel_rfl
def BG:ah bf 24=true:=by kernel_rfl
def HB:ah bf 25=true:=by kernel_rfl
def EV:ah bf 26=true:=by kernel_rfl
def GA:ah bf 27=true:=by kernel_rfl
def HA:ah bf 28=true:=by kernel_rfl
def Jc:ah bf 29=true:=by kernel_rfl
def EU:ah bf 35=true:=by kernel_rfl
def Hz:ah bf 36=true:=by kernel_rfl
def Di:ah bf 37=true:=by kernel_rfl
def Hy:ah bf 38=true:=by kernel_rfl
def Gz:ah bf 39=true:=by kernel_rfl
def Hx:ah bf 40=true:=by kernel_rfl
def Gy:ah bf 43=true:=by kernel_rfl
def Dh:ah bf 44=true:=by kernel_rfl
def Gx:ah bf 46=true:=by kernel_rfl
def Jb:ah bf 48=true:=by kernel_rfl
def Ja:ah bf 50=true:=by kernel_rfl
def I9:ah bf 51=true:=by kernel_rfl
def Ac:ah bf 52=true:=by kernel_rfl
def I8:ah bf 53=true:=by kernel_rfl
def Hw:ah bf 54=true:=by kernel_rfl
def I7:ah bf 55=true:=by kernel_rfl
def Gw:ah bf 56=true:=by kernel_rfl
def I6:ah bf 57=true:=by kernel_rfl
def I5:ah bf 58=true:=by kernel_rfl
def I4:ah bf 59=true:=by kernel_rfl
def Hv:ah bf 60=true:=by kernel_rfl
def I3:ah bf 61=true:=by kernel_rfl
def I2:ah bf 62=true:=by kernel_rfl
def I1:ah bf 63=true:=by kernel_rfl
def I0:ah bf 64=true:=by kernel_rfl
def IZ:ah bf 65=true:=by kernel_rfl
def IY:ah bf 71=true:=by kernel_rfl
def IX:ah bf 72=true:=by kernel_rfl
def IW:ah bf 73=true:=by kernel_rfl
def Hu:ah bf 74=true:=by kernel_rfl
def IV:ah bf 75=true:=by kernel_rfl
def ET:ah bf 79=true:=by kernel_rfl
def IU:ah bf 80=true:=by kernel_rfl
def Ab:ah bf 81=true:=by kernel_rfl
def IT:ah bf 82=true:=by kernel_rfl
def IS:ah bf 83=true:=by kernel_rfl
def Ht:ah bf 84=true:=by kernel_rfl
def Gv:ah bf 85=true:=by kernel_rfl
def IR:ah bf 86=true:=by kernel_rfl
def IQ:ah bf 87=true:=by kernel_rfl
def IP:ah bf 88=true:=by kernel_rfl
def IN:ah bf 90=true:=by kernel_rfl
def IM:ah bf 91=true:=by kernel_rfl
def IL:ah bf 92=true:=by kernel_rfl
def IK:ah bf 93=true:=by kernel_rfl
def IJ:ah bf 94=true:=by kernel_rfl
def II:ah bf 95=true:=by kernel_rfl
def IH:ah bf 96=true:=by kernel_rfl
def IG:ah bf 97=true:=by kernel_rfl
def IF:ah bf 98=true:=by kernel_rfl
def IE:ah bf 99=true:=by kernel_rfl
def Ia:ah bf 100=true:=by kernel_rfl
def H9:ah bf 101=true:=by kernel_rfl
def H8:ah bf 102=true:=by kernel_rfl
def H7:ah bf 114=true:=by kernel_rfl
def H6:ah bf 115=true:=by kernel_rfl
def H5:ah bf 116=true:=by kernel_rfl
def H4:ah bf 117=true:=by kernel_rfl
def Fn:ah bf 118=true:=by kernel_rfl
def H3:ah bf 119=true:=by kernel_rfl
def Fm:ah bf 120=true:=by kernel_rfl
def Dk:ah bf 121=true:=by kernel_rfl
def H2:ah bf 122=true:=by kernel_rfl
def H1:ah bf 123=true:=by kernel_rfl
def H0:ah bf 124=true:=by kernel_rfl
def HY:ah bf 125=true:=by kernel_rfl
def HX:ah bf 126=true:=by kernel_rfl
def Fl:ah bf 127=true:=by kernel_rfl
def HW:ah bf 128=true:=by kernel_rfl
def Fk:ah bf 129=true:=by kernel_rfl
def HV:ah bf 130=true:=by kernel_rfl
def HU:ah bf 131=true:=by kernel_rfl
def Dj:ah bf 132=true:=by kernel_rfl
def HT:ah bf 133=true:=by kernel_rfl
def HS:ah bf 134=true:=by kernel_rfl
def HR:ah bf 135=true:=by kernel_rfl
def HQ:ah bf 142=true:=by kernel_rfl
def Fj:ah bf 143=true:=by kernel_rfl
def Fi:ah bf 144=true:=by kernel_rfl
def Fh:ah bf 145=true:=by kernel_rfl
def HP:ah bf 146=true:=by kernel_rfl
def HO:ah bf 147=true:=by kernel_rfl
def HN:ah bf 148=true:=by kernel_rfl
def HM:ah bf 149=true:=by kernel_rfl
def HK:ah bf 150=true:=by kernel_rfl
def HJ:ah bf 151=true:=by kernel_rfl
def HI:ah bf 152=true:=by kernel_rfl
def HH:ah bf 153=true:=by kernel_rfl
def HG:ah bf 155=true:=by kernel_rfl
def HF:ah bf 156=true:=by kernel_rfl
def Fg:ah bf 157=true:=by kernel_rfl
def HE:ah bf 158=true:=by kernel_rfl
def zv4:ZV bf 4 (.bool false):=(show(Tryz.prog.info? 4).bind (fun i=>i.zero)=some (.bool false) by kernel_rfl)
def Io:ZV bf 93 (.nilFunc):=(show(Tryz.prog.info? 93).bind (fun i=>i.zero)=some (.nilFunc) by kernel_rfl)
def GO:ZV bf 141 (.nilFunc):=(show(Tryz.prog.info? 141).bind (fun i=>i.zero)=some (.nilFunc) by kernel_rfl)
def Fe:iY bf 61 cH 2:=uR (n:=1) (fs:=[(3,0,false),(2,1,false),(59,2,false),(9,3,false)]) (by kernel_rfl) (by kernel_rfl) rfl (yZ.cons bR rfl rfl kj (iy (nN (n:=0) mL) 0) (yZ.cons DZ rfl rfl lr (iy (nN (n:=0) Tryz.underlying2) 0) (yZ.cons Ch rfl rfl oQ (iy (nN (n:=0) Tryz.underlying59) 0) (yZ.cons DC rfl rfl jm (iy (EO (n:=0) AY) 0) yZ.nil)))) (fun x y=>by cases x;cases y;simp [Bool.decide_and])
def zT:DE bf 61 cH:=DE.of (by kernel_rfl) (iy Fe 18)
def Hr:iY bf 63 ai 3:=uR (n:=2) (fs:=[(3,0,false),(3,1,false),(3,2,false),(3,3,false),(61,4,false)]) (by kernel_rfl) (by kernel_rfl) rfl (yZ.cons bR rfl rfl cJ (iy (nN (n:=0) mL) 1) (yZ.cons bR rfl rfl eb (iy (nN (n:=0) mL) 1) (yZ.cons bR rfl rfl ea (iy (nN (n:=0) mL) 1) (yZ.cons bR rfl rfl dk (iy (nN (n:=0) mL) 1) (yZ.cons jM rfl rfl ft (iy Fe 0) yZ.nil))))) (fun x y=>by cases x;cases y;simp [Bool.decide_and])
def IC:DE bf 63 ai:=DE.of (by kernel_rfl) (iy Hr 17)
def Hs:DE bf 116 (kE (rI .i64) 2):=DE.of (by kernel_rfl) (iy (EP (n:=1) tL bR rfl rfl (nN (n:=0) mL)) 18)

end Go.Proofs.YtbmmihfagmchaaaGreat

