/- eJ of this claim: JX. -/
import Derived.Test.YtpgjgkdpeagjbaaGreatDoorJaA0
import Derived.Test.YtpgjgkdpeagjbaaGreatDoorJaQ4
set_option linter.all false
namespace Go.Proofs.YtpgjgkdpeagjbaaGreatDoor
open Go

def Ve{v:ac}(h:yj v):r64 v.N:=by
 have:=h.2.1
 unfold zJ at this
 exact⟨this.1,this.2⟩
def Qu{e:cy}(h:DQ e):NT e.Nodes:=fun n hn=>Ve ((show MZ HV e.Nodes from h).2 n hn).2.2.2.2
def XD{l:List cS}(h:MZ (MZ yj) l):HB l:=fun r hr v hv=>Ve ((h.2 r hr).2 v hv)
def TE{b:dg}(h:LV b):Lw b:=fun t Y=>XD ((show MZ (MZ (MZ yj)) b.Tables from h).2 t Y)
def abu{n:aq}(h:DP n):rgN n:=by
 obtain⟨_,_,_,_,_,_,hc,_,ha,hi,_,_⟩:=h
 exact⟨Qu hc,fun e he=>Qu (hi.2 e he),fun g H=>Qu (ha.2 g H).2⟩
def abv{l:cC}(h:HU l):rgL l:=fun n hn=>abu ((show MZ DP l.Nodes from h).2 n hn)
def Fc(l:cC)(hl:HU l)(b:dg)(M:LV b):qL l b=some true:=Ts l b (abv hl) (TE M)
end Go.Proofs.YtpgjgkdpeagjbaaGreatDoor

