/- cP of this claim: JX. -/
import Derived.Test.YtfhhakidodmdfaaGreatDoorJgA0
import Derived.Test.YtfhhakidodmdfaaGreatDoorJgQ4
set_option linter.all false
namespace Go.Proofs.YtfhhakidodmdfaaGreatDoor
open Go

theorem Ro{v:ac}(h:vo v):r64 v.N:=by
 have:=h.2.1
 unfold wL at this
 exact⟨this.1,this.2⟩
theorem MH{e:bG}(h:Bg e):If e.Nodes:=fun n hn=>Ro ((show Jm E0 e.Nodes from h).2 n hn).2.2.2.2
theorem T4{l:List cu}(h:Jm (Jm vo) l):EK l:=fun r hr v hv=>Ro ((h.2 r hr).2 v hv)
theorem PM{b:dx}(h:IA b):EL b:=fun t ht=>T4 ((show Jm (Jm (Jm vo)) b.Tables from h).2 t ht)
theorem X0{n:aj}(h:Bf n):rgN n:=by
 obtain⟨_,_,_,_,_,_,hc,_,ha,hi,_,_⟩:=h
 exact⟨MH hc,fun e he=>MH (hi.2 e he),fun g hg=>MH (ha.2 g hg).2⟩
theorem X1{l:bc}(h:EZ l):rgL l:=fun n hn=>X0 ((show Jm Bf l.Nodes from h).2 n hn)
end Go.Proofs.YtfhhakidodmdfaaGreatDoor

