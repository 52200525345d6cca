/- cU of this claim: JX. -/
import Derived.Test.YtfhhakidodmdfaaGreatDoorJfA0
import Derived.Test.YtfhhakidodmdfaaGreatDoorJfQ4
set_option linter.all false
namespace Go.Proofs.YtfhhakidodmdfaaGreatDoor
open Go

theorem R6{v:ac}(h:vN v):r64 v.N:=by
 have:=h.2.1
 unfold xi at this
 exact⟨this.1,this.2⟩
theorem Nu{e:bJ}(h:By e):IE e.Nodes:=fun n hn=>R6 ((show JK Fq e.Nodes from h).2 n hn).2.2.2.2
theorem UG{l:List ci}(h:JK (JK vN) l):E7 l:=fun r hr v hv=>R6 ((h.2 r hr).2 v hv)
theorem Qx{b:dv}(h:IZ b):E8 b:=fun t ht=>UG ((show JK (JK (JK vN)) b.Tables from h).2 t ht)
theorem R5{n:aj}(h:yq n):rgN n:=by
 obtain⟨_,_,_,_,_,_,hc,_,ha,hi,_,_⟩:=h
 exact⟨Nu hc,fun e he=>Nu (hi.2 e he),fun g hg=>Nu (ha.2 g hg).2⟩
theorem YC{l:bc}(h:Fp l):rgL l:=fun n hn=>R5 ((show JK yq l.Nodes from h).2 n hn)
end Go.Proofs.YtfhhakidodmdfaaGreatDoor

