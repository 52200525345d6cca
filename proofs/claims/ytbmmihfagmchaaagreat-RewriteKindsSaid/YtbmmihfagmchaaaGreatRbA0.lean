/- cP of this claim: A0. -/
import Derived.Test.YtbmmihfagmchaaaGreatRows
import Derived.Test.YtbmmihfagmchaaaGreatRbT
import Derived.Test.YtbmmihfagmchaaaGreatRbV3
import Derived.SevenTiedAt
set_option linter.all false
namespace Go.Proofs.YtbmmihfagmchaaaGreat
open Go Go.ChangeShapes Go.WideShapes Go.ChangeAt Go.RowKit

def Ou:ownKnob Tryz.prog.godebug=none:=by kernel_rfl
def Ma:laidOutB bk=true:=by kernel_rfl
def xz{tD:Type}(enc:TypeId×Value->tD)(W:World):xg enc bk W 3 (wJ (rI .i64) (tH .i64)):=zL qp (by kernel_rfl)
def Nx{tD:Type}(enc:TypeId×Value->tD)(W:World):xg enc bk W 23 (gy (wJ (rI .i64) (tH .i64))):=qh fS (by kernel_rfl) rfl (xz enc W)
def PW{tD:Type}(enc:TypeId×Value->tD)(W:World):xg enc bk W 4 (wJ rB PG):=HY Tryz.underlying4 (by kernel_rfl)
def RR{tD:Type}(enc:TypeId×Value->tD)(W:World):xg enc bk W 2 (wJ (rI .i64) (tH .i64)):=zL Tryz.underlying2 (by kernel_rfl)
def PS{tD:Type}(enc:TypeId×Value->tD)(W:World):xg enc bk W 59 (wJ (rI .u64) (tH .u64)):=zL Tryz.underlying59 (by kernel_rfl)
def RQ{tD:Type}(enc:TypeId×Value->tD)(W:World):xg enc bk W 9 (wJ rS RI):=Jk Dx (by kernel_rfl)
def Ei(x:bK):Prop:=(tH .i64) x.Kind/\(tH .i64) x.N/\(tH .u64) x.U/\RI x.S
def Ab:Rp bK:=nI (cq (wJ (rI .i64) (tH .i64)) (cq (wJ (rI .i64) (tH .i64)) (cq (wJ (rI .u64) (tH .u64)) (wJ rS RI)))) (fun x=>(x.Kind,x.N,x.U,x.S))
def H8:Fa Ab dr Ei:=sZ (gg kC (gg kC (gg kC kC)))
def PR{tD:Type}(enc:TypeId×Value->tD)(W:World):xg enc bk W 61 Ab:=m9 (l:=[(3,0),(2,1),(59,2),(9,3)]) (by kernel_rfl) (by kernel_rfl) (fun y=>⟨⟨y.1,y.2.1,y.2.2.1,y.2.2.2⟩,rfl⟩) (eS (xz enc W) rfl (eS (RR enc W) rfl (eS (PS enc W) rfl (qS (RQ enc W)))))
def Ek(x:aj):Prop:=(tH .i64) x.Tag/\(tH .i64) x.L/\(tH .i64) x.R/\(tH .i64) x.Col/\Ei x.Value
def wF:Rp aj:=nI (cq (wJ (rI .i64) (tH .i64)) (cq (wJ (rI .i64) (tH .i64)) (cq (wJ (rI .i64) (tH .i64)) (cq (wJ (rI .i64) (tH .i64)) Ab)))) (fun x=>(x.Tag,x.L,x.R,x.Col,x.Value))
def Ib:Fa wF ap Ek:=sZ (gg kC (gg kC (gg kC (gg kC H8))))
def PQ{tD:Type}(enc:TypeId×Value->tD)(W:World):xg enc bk W 63 wF:=m9 (l:=[(3,0),(3,1),(3,2),(3,3),(61,4)]) (by kernel_rfl) (by kernel_rfl) (fun y=>⟨⟨y.1,y.2.1,y.2.2.1,y.2.2.2.1,y.2.2.2.2⟩,rfl⟩) (eS (xz enc W) rfl (eS (xz enc W) rfl (eS (xz enc W) rfl (eS (xz enc W) rfl (qS (PR enc W))))))
def PZ{tD:Type}(enc:TypeId×Value->tD)(W:World):xg enc bk W 25 (gy wF):=qh gp (by kernel_rfl) rfl (PQ enc W)
def zg(x:ai):Prop:=(NK Ek) x.Nodes
def uL:Rp ai:=nI (gy wF) (fun x=>(x.Nodes))
def Ac:Fa uL ah zg:=sZ (vQ Ib)
def Jm{tD:Type}(enc:TypeId×Value->tD)(W:World):xg enc bk W 27 uL:=m9 (l:=[(25,0)]) (by kernel_rfl) (by kernel_rfl) (fun y=>⟨⟨y⟩,rfl⟩) (qS (PZ enc W))
def JQ(x:ik):Prop:=(tH .i64) x.Tag/\zg x.Arg
def CJ:Rp ik:=nI (cq (wJ (rI .i64) (tH .i64)) uL) (fun x=>(x.Tag,x.Arg))
def LO:Fa CJ dt JQ:=sZ (gg kC Ac)
def PP{tD:Type}(enc:TypeId×Value->tD)(W:World):xg enc bk W 77 CJ:=m9 (l:=[(3,0),(27,1)]) (by kernel_rfl) (by kernel_rfl) (fun y=>⟨⟨y.1,y.2⟩,rfl⟩) (eS (xz enc W) rfl (qS (Jm enc W)))
def PV{tD:Type}(enc:TypeId×Value->tD)(W:World):xg enc bk W 52 (gy CJ):=qh rE (by kernel_rfl) rfl (PP enc W)
def Qa{tD:Type}(enc:TypeId×Value->tD)(W:World):xg enc bk W 22 (gy uL):=qh lJ (by kernel_rfl) rfl (Jm enc W)
def JO(x:ly):Prop:=(tH .i64) x.Col/\PG x.Desc
def CI:Rp ly:=nI (cq (wJ (rI .i64) (tH .i64)) (wJ rB PG)) (fun x=>(x.Col,x.Desc))
def LN:Fa CI fU JO:=sZ (gg kC kC)
def PO{tD:Type}(enc:TypeId×Value->tD)(W:World):xg enc bk W 81 CI:=m9 (l:=[(3,0),(4,1)]) (by kernel_rfl) (by kernel_rfl) (fun y=>⟨⟨y.1,y.2⟩,rfl⟩) (eS (xz enc W) rfl (qS (PW enc W)))
def PU{tD:Type}(enc:TypeId×Value->tD)(W:World):xg enc bk W 53 (gy CI):=qh yY (by kernel_rfl) rfl (PO enc W)
def Ej(x:aa):Prop:=(tH .i64) x.Op/\(tH .i64) x.A/\(tH .i64) x.B/\(tH .i64) x.Table/\(NK (tH .i64)) x.Kinds/\PG x.Left/\zg x.Cond/\(NK (tH .i64)) x.Keys/\(NK JQ) x.Aggs/\(NK zg) x.Items/\(NK JO) x.Order/\(tH .i64) x.Limit
def wE:Rp aa:=nI (cq (wJ (rI .i64) (tH .i64)) (cq (wJ (rI .i64) (tH .i64)) (cq (wJ (rI .i64) (tH .i64)) (cq (wJ (rI .i64) (tH .i64)) (cq (gy (wJ (rI .i64) (tH .i64))) (cq (wJ rB PG) (cq uL (cq (gy (wJ (rI .i64) (tH .i64))) (cq (gy CJ) (cq (gy uL) (cq (gy CI) (wJ (rI .i64) (tH .i64))))))))))))) (fun x=>(x.Op,x.A,x.B,x.Table,x.Kinds,x.Left,x.Cond,x.Keys,x.Aggs,x.Items,x.Order,x.Limit))
def Ia:Fa wE ak Ej:=sZ (gg kC (gg kC (gg kC (gg kC (gg (vQ kC) (gg kC (gg Ac (gg (vQ kC) (gg (vQ LO) (gg (vQ Ac) (gg (vQ LN) kC)))))))))))
def PT{tD:Type}(enc:TypeId×Value->tD)(W:World):xg enc bk W 55 wE:=m9 (l:=[(3,0),(3,1),(3,2),(3,3),(23,4),(4,5),(27,6),(23,7),(52,8),(22,9),(53,10),(3,11)]) (by kernel_rfl) (by kernel_rfl) (fun y=>⟨⟨y.1,y.2.1,y.2.2.1,y.2.2.2.1,y.2.2.2.2.1,y.2.2.2.2.2.1,y.2.2.2.2.2.2.1,y.2.2.2.2.2.2.2.1,y.2.2.2.2.2.2.2.2.1,y.2.2.2.2.2.2.2.2.2.1,y.2.2.2.2.2.2.2.2.2.2.1,y.2.2.2.2.2.2.2.2.2.2.2⟩,rfl⟩) (eS (xz enc W) rfl (eS (xz enc W) rfl (eS (xz enc W) rfl (eS (xz enc W) rfl (eS (Nx enc W) rfl (eS (PW enc W) rfl (eS (Jm enc W) rfl (eS (Nx enc W) rfl (eS (PV enc W) rfl (eS (Qa enc W) rfl (eS (PU enc W) rfl (qS (xz enc W)))))))))))))
def PY{tD:Type}(enc:TypeId×Value->tD)(W:World):xg enc bk W 37 (gy wE):=qh jR (by kernel_rfl) rfl (PT enc W)
def JP(x:aw):Prop:=(NK Ej) x.Nodes
def DZ:Rp aw:=nI (gy wE) (fun x=>(x.Nodes))
def H9:Fa DZ ay JP:=sZ (vQ Ia)
def PX{tD:Type}(enc:TypeId×Value->tD)(W:World):xg enc bk W 39 DZ:=m9 (l:=[(37,0)]) (by kernel_rfl) (by kernel_rfl) (fun y=>⟨⟨y⟩,rfl⟩) (qS (PY enc W))
def eq{a b:Bool}(h:a=true)(k:b=true):(a&&b)=true:=by rw [h,k];rfl
def uN:(laidOutB Tryz.pinned.checked.prog)=true/\(mapsRowed Tryz.pinned.checked.prog)=true/\((Tryz.pinned.checked.prog.stops==[]))=true/\((Tryz.pinned.checked.prog.stopKnobs==[]))=true/\(Tryz.pinned.checked.prog.stopsHeard)=true/\(Tryz.pinned.checked.prog.mayEnter)=true:=by
 have h:((laidOutB Tryz.pinned.checked.prog)&&((mapsRowed Tryz.pinned.checked.prog)&&(((Tryz.pinned.checked.prog.stops==[]))&&(((Tryz.pinned.checked.prog.stopKnobs==[]))&&((Tryz.pinned.checked.prog.stopsHeard)&&((Tryz.pinned.checked.prog.mayEnter)))))))=true:=by kernel_rfl
 simpa only [iX] using h
end Go.Proofs.YtbmmihfagmchaaaGreat

