/- bT of this claim: A0. -/
import Derived.Test.YtdohlidddcgfjaaGreatRows
import Derived.Test.YtdohlidddcgfjaaGreatFdT
import Derived.Test.YtdohlidddcgfjaaGreatFdV3
import Derived.SevenTiedAt
set_option linter.all false
namespace Go.Proofs.YtdohlidddcgfjaaGreat
open Go Go.ChangeShapes Go.WideShapes Go.ChangeAt Go.RowKit

def Xk:ownKnob Tryz.prog.godebug=none:=by kernel_rfl
def Uy:laidOutB aY=true:=by kernel_rfl
def tU{hg:Type}(enc:TypeId×Value->hg)(W:World):wQ enc aY W 3 (tq (rI .i64) (oY .i64)):=xi lr (by kernel_rfl)
def Rf{hg:Type}(enc:TypeId×Value->hg)(W:World):wQ enc aY W 69 (fW (tq (rI .i64) (oY .i64))):=oM fx (by kernel_rfl) rfl (tU enc W)
def WX{hg:Type}(enc:TypeId×Value->hg)(W:World):wQ enc aY W 4 (tq rB Wd):=Pc Ga (by kernel_rfl)
def aca{hg:Type}(enc:TypeId×Value->hg)(W:World):wQ enc aY W 2 (tq (rI .i64) (oY .i64)):=xi Cr (by kernel_rfl)
def NC{hg:Type}(enc:TypeId×Value->hg)(W:World):wQ enc aY W 26 (tq (rI .u64) (oY .u64)):=xi zr (by kernel_rfl)
def ab9{hg:Type}(enc:TypeId×Value->hg)(W:World):wQ enc aY W 9 (tq rS inS):=Rb Fx (by kernel_rfl)
def AU(x:am):Prop:=(oY .i64) x.Kind/\(oY .i64) x.N/\(oY .u64) x.U/\inS x.S
def vd:Rp am:=mZ (cq (tq (rI .i64) (oY .i64)) (cq (tq (rI .i64) (oY .i64)) (cq (tq (rI .u64) (oY .u64)) (tq rS inS)))) (fun x=>(x.Kind,x.N,x.U,x.S))
def GC:F0 vd be AU:=qz (dq gn (dq gn (dq gn gn)))
def Rg{hg:Type}(enc:TypeId×Value->hg)(W:World):wQ enc aY W 104 vd:=kX (l:=[(3,0),(2,1),(26,2),(9,3)]) (by kernel_rfl) (by kernel_rfl) (fun y=>⟨⟨y.1,y.2.1,y.2.2.1,y.2.2.2⟩,rfl⟩) (cP (tU enc W) rfl (cP (aca enc W) rfl (cP (NC enc W) rfl (ou (ab9 enc W)))))
def EC(x:ap):Prop:=(oY .i64) x.Tag/\(oY .i64) x.L/\(oY .i64) x.R/\(oY .i64) x.Col/\AU x.Value
def AG:Rp ap:=mZ (cq (tq (rI .i64) (oY .i64)) (cq (tq (rI .i64) (oY .i64)) (cq (tq (rI .i64) (oY .i64)) (cq (tq (rI .i64) (oY .i64)) vd)))) (fun x=>(x.Tag,x.L,x.R,x.Col,x.Value))
def PB:F0 AG bD EC:=qz (dq gn (dq gn (dq gn (dq gn GC))))
def WY{hg:Type}(enc:TypeId×Value->hg)(W:World):wQ enc aY W 160 AG:=kX (l:=[(3,0),(3,1),(3,2),(3,3),(104,4)]) (by kernel_rfl) (by kernel_rfl) (fun y=>⟨⟨y.1,y.2.1,y.2.2.1,y.2.2.2.1,y.2.2.2.2⟩,rfl⟩) (cP (tU enc W) rfl (cP (tU enc W) rfl (cP (tU enc W) rfl (cP (tU enc W) rfl (ou (Rg enc W))))))
def Zs{hg:Type}(enc:TypeId×Value->hg)(W:World):wQ enc aY W 82 (fW AG):=oM sq (by kernel_rfl) rfl (WY enc W)
def AV(x:aP):Prop:=(Oa EC) x.Nodes
def yv:Rp aP:=mZ (fW AG) (fun x=>(x.Nodes))
def Ek:F0 yv cU AV:=qz (tk PB)
def Re{hg:Type}(enc:TypeId×Value->hg)(W:World):wQ enc aY W 84 yv:=kX (l:=[(82,0)]) (by kernel_rfl) (by kernel_rfl) (fun y=>⟨⟨y⟩,rfl⟩) (ou (Zs enc W))
def R1(x:eS):Prop:=(oY .i64) x.Tag/\AV x.Arg
def H0:Rp eS:=mZ (cq (tq (rI .i64) (oY .i64)) yv) (fun x=>(x.Tag,x.Arg))
def Ue:F0 H0 fI R1:=qz (dq gn Ek)
def WZ{hg:Type}(enc:TypeId×Value->hg)(W:World):wQ enc aY W 115 H0:=kX (l:=[(3,0),(84,1)]) (by kernel_rfl) (by kernel_rfl) (fun y=>⟨⟨y.1,y.2⟩,rfl⟩) (cP (tU enc W) rfl (ou (Re enc W)))
def Zr{hg:Type}(enc:TypeId×Value->hg)(W:World):wQ enc aY W 85 (fW H0):=oM qr (by kernel_rfl) rfl (WZ enc W)
def Zq{hg:Type}(enc:TypeId×Value->hg)(W:World):wQ enc aY W 86 (fW yv):=oM xb (by kernel_rfl) rfl (Re enc W)
def RZ(x:kg):Prop:=(oY .i64) x.Col/\Wd x.Desc
def HY:Rp kg:=mZ (cq (tq (rI .i64) (oY .i64)) (tq rB Wd)) (fun x=>(x.Col,x.Desc))
def Ud:F0 HY iA RZ:=qz (dq gn gn)
def Xa{hg:Type}(enc:TypeId×Value->hg)(W:World):wQ enc aY W 113 HY:=kX (l:=[(3,0),(4,1)]) (by kernel_rfl) (by kernel_rfl) (fun y=>⟨⟨y.1,y.2⟩,rfl⟩) (cP (tU enc W) rfl (ou (WX enc W)))
def Zp{hg:Type}(enc:TypeId×Value->hg)(W:World):wQ enc aY W 87 (fW HY):=oM yT (by kernel_rfl) rfl (Xa enc W)
def EB(x:aa):Prop:=(oY .i64) x.Op/\(oY .i64) x.A/\(oY .i64) x.B/\(oY .i64) x.Table/\(Oa (oY .i64)) x.Kinds/\Wd x.Left/\AV x.Cond/\(Oa (oY .i64)) x.Keys/\(Oa R1) x.Aggs/\(Oa AV) x.Items/\(Oa RZ) x.Order/\(oY .i64) x.Limit
def AF:Rp aa:=mZ (cq (tq (rI .i64) (oY .i64)) (cq (tq (rI .i64) (oY .i64)) (cq (tq (rI .i64) (oY .i64)) (cq (tq (rI .i64) (oY .i64)) (cq (fW (tq (rI .i64) (oY .i64))) (cq (tq rB Wd) (cq yv (cq (fW (tq (rI .i64) (oY .i64))) (cq (fW H0) (cq (fW yv) (cq (fW HY) (tq (rI .i64) (oY .i64))))))))))))) (fun x=>(x.Op,x.A,x.B,x.Table,x.Kinds,x.Left,x.Cond,x.Keys,x.Aggs,x.Items,x.Order,x.Limit))
def PA:F0 AF bl EB:=qz (dq gn (dq gn (dq gn (dq gn (dq (tk gn) (dq gn (dq Ek (dq (tk gn) (dq (tk Ue) (dq (tk Ek) (dq (tk Ud) gn)))))))))))
def Zo{hg:Type}(enc:TypeId×Value->hg)(W:World):wQ enc aY W 89 AF:=kX (l:=[(3,0),(3,1),(3,2),(3,3),(69,4),(4,5),(84,6),(69,7),(85,8),(86,9),(87,10),(3,11)]) (by kernel_rfl) (by kernel_rfl) (fun y=>⟨⟨y.1,y.2.1,y.2.2.1,y.2.2.2.1,y.2.2.2.2.1,y.2.2.2.2.2.1,y.2.2.2.2.2.2.1,y.2.2.2.2.2.2.2.1,y.2.2.2.2.2.2.2.2.1,y.2.2.2.2.2.2.2.2.2.1,y.2.2.2.2.2.2.2.2.2.2.1,y.2.2.2.2.2.2.2.2.2.2.2⟩,rfl⟩) (cP (tU enc W) rfl (cP (tU enc W) rfl (cP (tU enc W) rfl (cP (tU enc W) rfl (cP (Rf enc W) rfl (cP (WX enc W) rfl (cP (Re enc W) rfl (cP (Rf enc W) rfl (cP (Zr enc W) rfl (cP (Zq enc W) rfl (cP (Zp enc W) rfl (ou (tU enc W)))))))))))))
def Zu{hg:Type}(enc:TypeId×Value->hg)(W:World):wQ enc aY W 68 (fW AF):=oM tR (by kernel_rfl) rfl (Zo enc W)
def Il(x:di):Prop:=(Oa EB) x.Nodes/\(oY .i64) x.At/\(oY .i64) x.Way/\(Oa (oY .i64)) x.Cols
def Df:Rp di:=mZ (cq (fW AF) (cq (tq (rI .i64) (oY .i64)) (cq (tq (rI .i64) (oY .i64)) (fW (tq (rI .i64) (oY .i64)))))) (fun x=>(x.Nodes,x.At,x.Way,x.Cols))
def RA:F0 Df cG Il:=qz (dq (tk PA) (dq gn (dq gn (tk gn))))
def Zt{hg:Type}(enc:TypeId×Value->hg)(W:World):wQ enc aY W 71 Df:=kX (l:=[(68,0),(3,1),(3,2),(69,3)]) (by kernel_rfl) (by kernel_rfl) (fun y=>⟨⟨y.1,y.2.1,y.2.2.1,y.2.2.2⟩,rfl⟩) (cP (Zu enc W) rfl (cP (tU enc W) rfl (cP (tU enc W) rfl (ou (Rf enc W)))))
def ZB{hg:Type}(enc:TypeId×Value->hg)(W:World):wQ enc aY W 22 (fW Df):=oM wV (by kernel_rfl) rfl (Zt enc W)
def Ij(x:cT):Prop:=(Oa Il) x.Frags
def HX:Rp cT:=mZ (fW Df) (fun x=>(x.Frags))
def Rz:F0 HX mh Ij:=qz (tk RA)
def ZA{hg:Type}(enc:TypeId×Value->hg)(W:World):wQ enc aY W 24 HX:=kX (l:=[(22,0)]) (by kernel_rfl) (by kernel_rfl) (fun y=>⟨⟨y⟩,rfl⟩) (ou (ZB enc W))
def Zz{hg:Type}(enc:TypeId×Value->hg)(W:World):wQ enc aY W 25 (tq (rI .u32) (oY .u32)):=xi DI (by kernel_rfl)
def Xb{hg:Type}(enc:TypeId×Value->hg)(W:World):wQ enc aY W 102 (fW vd):=oM Aj (by kernel_rfl) rfl (Rg enc W)
def Zy{hg:Type}(enc:TypeId×Value->hg)(W:World):wQ enc aY W 27 (fW (fW vd)):=oM u4 (by kernel_rfl) rfl (Xb enc W)
def Kb(x:bI):Prop:=(Oa (Oa AU)) x.Rows/\Wd x.End/\(oY .u64) x.Count
def Ei:Rp bI:=mZ (cq (fW (fW vd)) (cq (tq rB Wd) (tq (rI .u64) (oY .u64)))) (fun x=>(x.Rows,x.End,x.Count))
def PC:F0 Ei kj Kb:=qz (dq (tk (tk GC)) (dq gn gn))
def Zx{hg:Type}(enc:TypeId×Value->hg)(W:World):wQ enc aY W 29 Ei:=kX (l:=[(27,0),(4,1),(26,2)]) (by kernel_rfl) (by kernel_rfl) (fun y=>⟨⟨y.1,y.2.1,y.2.2⟩,rfl⟩) (cP (Zy enc W) rfl (cP (WX enc W) rfl (ou (NC enc W))))
def GO(x:aI):Prop:=(oY .i64) x.Kind/\(oY .u32) x.Session/\(oY .u64) x.Seq/\(oY .u64) x.Limit/\Kb x.Batch
def BR:Rp aI:=mZ (cq (tq (rI .i64) (oY .i64)) (cq (tq (rI .u32) (oY .u32)) (cq (tq (rI .u64) (oY .u64)) (cq (tq (rI .u64) (oY .u64)) Ei)))) (fun x=>(x.Kind,x.Session,x.Seq,x.Limit,x.Batch))
def LY:F0 BR cx GO:=qz (dq gn (dq gn (dq gn (dq gn PC))))
def Zw{hg:Type}(enc:TypeId×Value->hg)(W:World):wQ enc aY W 31 BR:=kX (l:=[(3,0),(25,1),(26,2),(26,3),(29,4)]) (by kernel_rfl) (by kernel_rfl) (fun y=>⟨⟨y.1,y.2.1,y.2.2.1,y.2.2.2.1,y.2.2.2.2⟩,rfl⟩) (cP (tU enc W) rfl (cP (Zz enc W) rfl (cP (NC enc W) rfl (cP (NC enc W) rfl (ou (Zx enc W))))))
def Zv{hg:Type}(enc:TypeId×Value->hg)(W:World):wQ enc aY W 32 (tq (rI .i64) (oY .i64)):=xi Tryz.underlying32 (by kernel_rfl)
def Ik(x:bR):Prop:=(oY .i64) x.Kind/\(oY .i64) x.From/\(oY .i64) x.To/\(oY .i64) x.Epoch/\(oY .i64) x.Frag/\(oY .i64) x.Sites/\Ij x.Plan/\GO x.Packet/\(oY .i64) x.Err
def Rs:Rp bR:=mZ (cq (tq (rI .i64) (oY .i64)) (cq (tq (rI .i64) (oY .i64)) (cq (tq (rI .i64) (oY .i64)) (cq (tq (rI .i64) (oY .i64)) (cq (tq (rI .i64) (oY .i64)) (cq (tq (rI .i64) (oY .i64)) (cq HX (cq BR (tq (rI .i64) (oY .i64)))))))))) (fun x=>(x.Kind,x.From,x.To,x.Epoch,x.Frag,x.Sites,x.Plan,x.Packet,x.Err))
def NK:F0 Rs fz Ik:=qz (dq gn (dq gn (dq gn (dq gn (dq gn (dq gn (dq Rz (dq LY gn))))))))
def V0{hg:Type}(enc:TypeId×Value->hg)(W:World):wQ enc aY W 34 Rs:=kX (l:=[(3,0),(3,1),(3,2),(3,3),(3,4),(3,5),(24,6),(31,7),(32,14)]) (by kernel_rfl) (by kernel_rfl) (fun y=>⟨⟨y.1,y.2.1,y.2.2.1,y.2.2.2.1,y.2.2.2.2.1,y.2.2.2.2.2.1,y.2.2.2.2.2.2.1,y.2.2.2.2.2.2.2.1,y.2.2.2.2.2.2.2.2⟩,rfl⟩) (cP (tU enc W) rfl (cP (tU enc W) rfl (cP (tU enc W) rfl (cP (tU enc W) rfl (cP (tU enc W) rfl (cP (tU enc W) rfl (cP (ZA enc W) rfl (cP (Zw enc W) rfl (ou (Zv enc W))))))))))
def fF{a b:Bool}(h:a=true)(k:b=true):(a&&b)=true:=by rw [h,k];rfl
def yz:(laidOutB Tryz.pinned.checked.prog)=true/\(mapsRowed Tryz.pinned.checked.prog)=true/\((Tryz.pinned.checked.prog.stops==[]))=true/\((Tryz.pinned.checked.prog.stopKnobs==[]))=true/\(Tryz.pinned.checked.prog.stopsHeard)=true/\(Tryz.pinned.checked.prog.mayEnter)=true:=by
 have h:((laidOutB Tryz.pinned.checked.prog)&&((mapsRowed Tryz.pinned.checked.prog)&&(((Tryz.pinned.checked.prog.stops==[]))&&(((Tryz.pinned.checked.prog.stopKnobs==[]))&&((Tryz.pinned.checked.prog.stopsHeard)&&((Tryz.pinned.checked.prog.mayEnter)))))))=true:=by kernel_rfl
 simpa only [lq] using h
end Go.Proofs.YtdohlidddcgfjaaGreat

