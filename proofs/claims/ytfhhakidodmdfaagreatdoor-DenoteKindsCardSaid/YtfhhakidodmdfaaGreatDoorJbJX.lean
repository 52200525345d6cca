/- db of this claim: JX. -/
import Derived.Test.YtfhhakidodmdfaaGreatDoorJbA0
import Derived.Test.YtfhhakidodmdfaaGreatDoorJbQ4
set_option linter.all false
namespace Go.Proofs.YtfhhakidodmdfaaGreatDoor
open Go

theorem Q0{v:ac}(h:u0 v):r64 v.N:=by
 have:=h.2.1
 unfold wm at this
 exact⟨this.1,this.2⟩
theorem Mi{e:br}(h:AK e):Jx e.Nodes:=fun n hn=>Q0 ((show IS ED e.Nodes from h).2 n hn).2.2.2.2
theorem TA{l:List cM}(h:IS (IS u0) l):Ek l:=fun r hr v hv=>Q0 ((h.2 r hr).2 v hv)
theorem Pm{b:eD}(h:H6 b):HK b:=fun t ht=>TA ((show IS (IS (IS u0)) b.Tables from h).2 t ht)
theorem XB{n:am}(h:AJ n):rgN n:=by
 obtain⟨_,_,_,_,_,_,hc,_,ha,hi,_,_⟩:=h
 exact⟨Mi hc,fun e he=>Mi (hi.2 e he),fun g hg=>Mi (ha.2 g hg).2⟩
theorem XC{l:bN}(h:EC l):rgL l:=fun n hn=>XB ((show IS AJ l.Nodes from h).2 n hn)
theorem Bc(l:bN)(hl:EC l)(b:eD)(hb:H6 b):nr l b=some true:=Mq l b (XC hl) (Pm hb)
end Go.Proofs.YtfhhakidodmdfaaGreatDoor

