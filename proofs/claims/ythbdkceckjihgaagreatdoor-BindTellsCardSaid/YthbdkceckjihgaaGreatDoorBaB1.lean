/- cH of this claim: B1. -/
import Derived.Test.YthbdkceckjihgaaGreatDoorBaQ1
import Derived.KernelRfl
set_option linter.all false
namespace Go.Proofs.YthbdkceckjihgaaGreatDoor
open Go

def yV{α:Type}(l:List α)(m:Nat)(hm:m<=100000):((cB l 0 (min (l.length:Int) (m:Int))).bind fun y=>(mM ([]:List α) y).bind fun x=>some x)=some (l.take m):=by
 have e:min (l.length:Int) (m:Int)=((min l.length m:Nat):Int):=by omega
 have h:cB l 0 (min (l.length:Int) (m:Int))=some (l.take m):=by
  unfold cB
  rw [fE ⟨by omega,by omega,by omega⟩,e]
  simp only [CK,Int.toNat_zero,r0,CM]
  rw [List.take_eq_take_iff];omega
 rw [h,eC]
 unfold mM
 rw [fE (by simp;omega)]
 simp
def DY(s:dN)(m:Nat)(hm:m<=100000):cB s 0 (min (s.length:Int) (m:Int))=some (s.take m):=by
 have e:min (s.length:Int) (m:Int)=((min s.length m:Nat):Int):=by omega
 unfold cB
 rw [fE ⟨by omega,by omega,by omega⟩,e]
 simp only [CK,Int.toNat_zero,r0,CM]
 rw [List.take_eq_take_iff];omega
def nf{α:Type}(pre:List α)(e:α)(tl:List α):gI (pre++e::tl) (pre.length:Int)=some e:=by
 rw [la];simp
def ox{α:Type}(pre:List α)(e y:α)(tl:List α):(pre++e::tl).set ((pre.length:Nat):Int).toNat y=pre++y::tl:=by
 simp
def Fe(l:List Int)(m:Nat)(hm:m<=100000):eW l (m:Int)=some (l.take m):=yV l m hm
def DX(t:bv):bv:={t with Columns:=t.Columns.take 5,Keys:=t.Keys.take 5}
def Av(c:aY):aY:=⟨(c.Tables.take 5).map DX⟩
def G7: ∀(tl pre:List bv),iB tl pre.length ⟨pre++tl⟩=some ⟨pre++tl.map DX⟩:=by
 intro tl
 induction tl with
 |nil=>intro pre;simp [iB]
 |cons e tl ih=>
  intro pre
  have H:=yV e.Columns 5 (by omega)
  have J:=yV e.Keys 5 (by omega)
  unfold iB
  rw [nf,eC,eC]
  rw [show gZ e.Columns (5:Int)=some (e.Columns.take 5)from H,eC,show eW e.Keys (5:Int)=some (e.Keys.take 5)from J,eC]
  rw [eC,ox,nf,eC,eC,ox]
  have h3:=ih (pre++[DX e])
  simp only [j6,CP,sa,CQ]at h3
  rw [tz]
  exact h3
def G8(c:aY):oF c=some (Av c):=by
 unfold oF
 rw [show ka c.Tables (5:Int)=some (c.Tables.take 5)from yV c.Tables 5 (by omega),eC]
 exact G7 (c.Tables.take 5) []
def Ib(n:dZ):dZ:={n with Value:={n.Value with S:=n.Value.S.take 60},Table:=n.Table.take 40,Name:=n.Name.take 40}
def pD(t:cD):cD:=⟨(t.Nodes.take 80).map Ib⟩
def Ha: ∀(tl pre:List dZ),iC tl pre.length ⟨pre++tl⟩=some ⟨pre++tl.map Ib⟩:=by
 intro tl
 induction tl with
 |nil=>intro pre;simp [iC]
 |cons e tl ih=>
  intro pre
  unfold iC
  rw [nf,eC]
  rw [show cB e.Value.S 0 (min (e.Value.S.length:Int) (60:Int))=some (e.Value.S.take 60)from DY _ 60 (by omega),eC,show cB e.Table 0 (min (e.Table.length:Int) (40:Int))=some (e.Table.take 40)from DY _ 40 (by omega),eC,
   show cB e.Name 0 (min (e.Name.length:Int) (40:Int))=some (e.Name.take 40)from DY _ 40 (by omega),eC]
  rw [eC,ox,nf,eC,eC,ox,nf,eC,eC,ox]
  have h3:=ih (pre++[Ib e])
  simp only [j6,CP,sa,CQ]at h3
  rw [tz]
  exact h3
def tW(t:cD):jy t=some (pD t):=by
 unfold jy
 rw [show kB t.Nodes (80:Int)=some (t.Nodes.take 80)from yV t.Nodes 80 (by omega),eC]
 exact Ha (t.Nodes.take 80) []
def Kb(x:er):er:={x with Tree:=pD x.Tree}
def Ic(x:kN):kN:={x with On:=pD x.On}
def Ka(s:aJ):aJ:={s with Items:=(s.Items.take 7).map Kb,Joins:=(s.Joins.take 3).map Ic,Where:=pD s.Where,Having:=pD s.Having,Group:=s.Group.take 4}
def Nn(q:bD):bD:={q with Selects:=(q.Selects.take 4).map Ka,Keys:=q.Keys.take 4}
def LA(nx:Nat->bD->Option bD)(pq tq:List aJ)(e0:aJ)(q1:bD)(hq:q1.Selects=pq++e0::tq): ∀(tl pre:List kN) (s:aJ),s.Joins=pre++tl->jU nx pq.length q1 tl pre.length s=nx (pq.length+1) {q1 with Selects:=pq++{s with Joins:=pre++tl.map Ic,Where:=pD s.Where,Having:=pD s.Having}::tq}:=by
 intro tl
 induction tl with
 |nil=>
  intro pre s hs
  unfold jU
  rw [tW,eC,tW,eC,eC,hq,ox,hs]
  rfl
 |cons e tl ih=>
  intro pre s hs
  unfold jU
  rw [hs,nf,eC,eC,tW,eC,eC,ox]
  have h3:=ih (pre++[Ic e]) {s with Joins:=pre++Ic e::tl} (by simp)
  simp only [j6,CP,sa,CQ]at h3
  rw [tz]
  exact h3
def LB(nx:Nat->bD->Option bD)(pq tq:List aJ)(e0:aJ)(q1:bD)(hq:q1.Selects=pq++e0::tq): ∀(tl pre:List er) (s:aJ),s.Items=pre++tl->jV nx pq.length q1 tl pre.length s=nx (pq.length+1) {q1 with Selects:=pq++{s with Items:=pre++tl.map Kb,Joins:=s.Joins.map Ic,Where:=pD s.Where,Having:=pD s.Having}::tq}:=by
 intro tl
 induction tl with
 |nil=>
  intro pre s hs
  unfold jV
  have:=LA nx pq tq e0 q1 hq s.Joins [] s rfl
  rw [show([]:List kN).length=0 from rfl]at this
  rw [this]
  simp [hs]
 |cons e tl ih=>
  intro pre s hs
  unfold jV
  rw [hs,nf,eC,eC,tW,eC,eC,ox]
  have h3:=ih (pre++[Kb e]) {s with Items:=pre++Kb e::tl} (by simp)
  simp only [j6,CP,sa,CQ]at h3
  rw [tz]
  exact h3
def LC: ∀(tl pre:List aJ) (q:bD),q.Selects=pre++tl->gn tl pre.length q=some {q with Selects:=pre++tl.map Ka}:=by
 intro tl
 induction tl with
 |nil=>intro pre q hq;unfold gn;simp [<-hq]
 |cons e tl ih=>
  intro pre q hq
  unfold gn
  rw [hq,nf,eC,eC]
  rw [show kD e.Items (7:Int)=some (e.Items.take 7)from yV _ 7 (by omega),eC,show kC e.Joins (3:Int)=some (e.Joins.take 3)from yV _ 3 (by omega),eC,show iT e.Group (4:Int)=some (e.Group.take 4)from yV _ 4 (by omega),eC]
  have J:=LB (gn tl) pre tl e q hq (e.Items.take 7) [] {e with Group:=e.Group.take 4,Items:=e.Items.take 7,Joins:=e.Joins.take 3} rfl
  rw [show([]:List er).length=0 from rfl]at J
  rw [J]
  have h3:=ih (pre++[Ka e]) {q with Selects:=pre++Ka e::tl} (by simp)
  simp only [j6,CP,sa,CQ]at h3
  rw [tz]
  exact h3
def LD(q:bD):rE q=some (Nn q):=by
 unfold rE
 rw [show jz q.Selects (4:Int)=some (q.Selects.take 4)from yV _ 4 (by omega),eC,show jk q.Keys (4:Int)=some (q.Keys.take 4)from yV _ 4 (by omega),eC]
 have:=LC (q.Selects.take 4) [] {q with Keys:=q.Keys.take 4,Selects:=q.Selects.take 4} rfl
 exact this
def CY:qR=some true:=by kernel_rfl
def Au(c:aY):vM (Av c):=by
 intro t Y
 obtain⟨u,_,rfl⟩:=List.mem_map.1 Y
 have:(DX u).Keys.length<=5:=by simp [DX];omega
 omega
end Go.Proofs.YthbdkceckjihgaaGreatDoor

