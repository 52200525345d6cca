/- cT of this claim: JX. -/
import Derived.Test.YtfhhakidodmdfaaGreatDoorJeA0
import Derived.Test.YtfhhakidodmdfaaGreatDoorJeQ4
set_option linter.all false
namespace Go.Proofs.YtfhhakidodmdfaaGreatDoor
open Go

theorem Q8{v:ac}(h:u6 v):r64 v.N:=by
 have:=h.2.1
 unfold wm at this
 exact⟨this.1,this.2⟩
theorem Mq{e:bK}(h:AJ e):JI e.Nodes:=fun n hn=>Q8 ((show IX EF e.Nodes from h).2 n hn).2.2.2.2
theorem TA{l:List cA}(h:IX (IX u6) l):El l:=fun r hr v hv=>Q8 ((h.2 r hr).2 v hv)
theorem Pt{b:cB}(h:Id b):HS b:=fun t ht=>TA ((show IX (IX (IX u6)) b.Tables from h).2 t ht)
theorem Xv{n:ak}(h:AI n):rgN n:=by
 obtain⟨_,_,_,_,_,_,hc,_,ha,hi,_,_⟩:=h
 exact⟨Mq hc,fun e he=>Mq (hi.2 e he),fun g hg=>Mq (ha.2 g hg).2⟩
theorem Xw{l:bE}(h:EE l):rgL l:=fun n hn=>Xv ((show IX AI l.Nodes from h).2 n hn)
end Go.Proofs.YtfhhakidodmdfaaGreatDoor

