/- cE of this claim: A0. -/
import Derived.Test.YtdohlidddcgfjaaGreatRows
import Derived.Test.YtdohlidddcgfjaaGreatFcT
import Derived.Test.YtdohlidddcgfjaaGreatFcV3
import Derived.SevenTiedAt
set_option linter.all false
namespace Go.Proofs.YtdohlidddcgfjaaGreat
open Go Go.ChangeShapes Go.WideShapes Go.ChangeAt Go.RowKit

def WD:ownKnob Tryz.prog.godebug=none:=by kernel_rfl
def TK:laidOutB bd=true:=by kernel_rfl
def z2{hb:Type}(enc:TypeId×Value->hb)(W:World):AF enc bd W 3 (zM (rI .i64) (vP .i64)):=D4 iL (by kernel_rfl)
def Qt{hb:Type}(enc:TypeId×Value->hb)(W:World):AF enc bd W 69 (f6 (zM (rI .i64) (vP .i64))):=ss df (by kernel_rfl) rfl (z2 enc W)
def Zb{hb:Type}(enc:TypeId×Value->hb)(W:World):AF enc bd W 4 (zM rB YK):=Ov Gk (by kernel_rfl)
def abX{hb:Type}(enc:TypeId×Value->hb)(W:World):AF enc bd W 2 (zM (rI .i64) (vP .i64)):=D4 DH (by kernel_rfl)
def Zc{hb:Type}(enc:TypeId×Value->hb)(W:World):AF enc bd W 26 (zM (rI .u64) (vP .u64)):=D4 vF (by kernel_rfl)
def abW{hb:Type}(enc:TypeId×Value->hb)(W:World):AF enc bd W 9 (zM rS inS):=Qq Df (by kernel_rfl)
def EF(x:aC):Prop:=(vP .i64) x.Kind/\(vP .i64) x.N/\(vP .u64) x.U/\inS x.S
def Ep:Rp aC:=nN (cH (zM (rI .i64) (vP .i64)) (cH (zM (rI .i64) (vP .i64)) (cH (zM (rI .u64) (vP .u64)) (zM rS inS)))) (fun x=>(x.Kind,x.N,x.U,x.S))
def OT:I0 Ep bF EF:=va (gZ mu (gZ mu (gZ mu mu)))
def Wv{hb:Type}(enc:TypeId×Value->hb)(W:World):AF enc bd W 104 Ep:=pz (l:=[(3,0),(2,1),(26,2),(9,3)]) (by kernel_rfl) (by kernel_rfl) (fun y=>⟨⟨y.1,y.2.1,y.2.2.1,y.2.2.2⟩,rfl⟩) (fR (z2 enc W) rfl (fR (abX enc W) rfl (fR (Zc enc W) rfl (td (abW enc W)))))
def EH(x:av):Prop:=(vP .i64) x.Tag/\(vP .i64) x.L/\(vP .i64) x.R/\(vP .i64) x.Col/\EF x.Value
def A6:Rp av:=nN (cH (zM (rI .i64) (vP .i64)) (cH (zM (rI .i64) (vP .i64)) (cH (zM (rI .i64) (vP .i64)) (cH (zM (rI .i64) (vP .i64)) Ep)))) (fun x=>(x.Tag,x.L,x.R,x.Col,x.Value))
def OV:I0 A6 bt EH:=va (gZ mu (gZ mu (gZ mu (gZ mu OT))))
def Ws{hb:Type}(enc:TypeId×Value->hb)(W:World):AF enc bd W 160 A6:=pz (l:=[(3,0),(3,1),(3,2),(3,3),(104,4)]) (by kernel_rfl) (by kernel_rfl) (fun y=>⟨⟨y.1,y.2.1,y.2.2.1,y.2.2.2.1,y.2.2.2.2⟩,rfl⟩) (fR (z2 enc W) rfl (fR (z2 enc W) rfl (fR (z2 enc W) rfl (fR (z2 enc W) rfl (td (Wv enc W))))))
def Y8{hb:Type}(enc:TypeId×Value->hb)(W:World):AF enc bd W 82 (f6 A6):=ss j5 (by kernel_rfl) rfl (Ws enc W)
def Bj(x:aW):Prop:=(PT EH) x.Nodes
def yY:Rp aW:=nN (f6 A6) (fun x=>(x.Nodes))
def Er:I0 yY bN Bj:=va (wO OV)
def Qs{hb:Type}(enc:TypeId×Value->hb)(W:World):AF enc bd W 84 yY:=pz (l:=[(82,0)]) (by kernel_rfl) (by kernel_rfl) (fun y=>⟨⟨y⟩,rfl⟩) (td (Y8 enc W))
def Ra(x:fU):Prop:=(vP .i64) x.Tag/\Bj x.Arg
def HV:Rp fU:=nN (cH (zM (rI .i64) (vP .i64)) yY) (fun x=>(x.Tag,x.Arg))
def Ts:I0 HV fh Ra:=va (gZ mu Er)
def Wt{hb:Type}(enc:TypeId×Value->hb)(W:World):AF enc bd W 115 HV:=pz (l:=[(3,0),(84,1)]) (by kernel_rfl) (by kernel_rfl) (fun y=>⟨⟨y.1,y.2⟩,rfl⟩) (fR (z2 enc W) rfl (td (Qs enc W)))
def Y7{hb:Type}(enc:TypeId×Value->hb)(W:World):AF enc bd W 85 (f6 HV):=ss lb (by kernel_rfl) rfl (Wt enc W)
def Y0{hb:Type}(enc:TypeId×Value->hb)(W:World):AF enc bd W 86 (f6 yY):=ss qD (by kernel_rfl) rfl (Qs enc W)
def Q9(x:kF):Prop:=(vP .i64) x.Col/\YK x.Desc
def HU:Rp kF:=nN (cH (zM (rI .i64) (vP .i64)) (zM rB YK)) (fun x=>(x.Col,x.Desc))
def Tq:I0 HU gy Q9:=va (gZ mu mu)
def Wu{hb:Type}(enc:TypeId×Value->hb)(W:World):AF enc bd W 113 HU:=pz (l:=[(3,0),(4,1)]) (by kernel_rfl) (by kernel_rfl) (fun y=>⟨⟨y.1,y.2⟩,rfl⟩) (fR (z2 enc W) rfl (td (Zb enc W)))
def YZ{hb:Type}(enc:TypeId×Value->hb)(W:World):AF enc bd W 87 (f6 HU):=ss rz (by kernel_rfl) rfl (Wu enc W)
def EG(x:tV):Prop:=(vP .i64) x.Op/\(vP .i64) x.A/\(vP .i64) x.B/\(vP .i64) x.Table/\(PT (vP .i64)) x.Kinds/\YK x.Left/\Bj x.Cond/\(PT (vP .i64)) x.Keys/\(PT Ra) x.Aggs/\(PT Bj) x.Items/\(PT Q9) x.Order/\(vP .i64) x.Limit
def A5:Rp tV:=nN (cH (zM (rI .i64) (vP .i64)) (cH (zM (rI .i64) (vP .i64)) (cH (zM (rI .i64) (vP .i64)) (cH (zM (rI .i64) (vP .i64)) (cH (f6 (zM (rI .i64) (vP .i64))) (cH (zM rB YK) (cH yY (cH (f6 (zM (rI .i64) (vP .i64))) (cH (f6 HV) (cH (f6 yY) (cH (f6 HU) (zM (rI .i64) (vP .i64))))))))))))) (fun x=>(x.Op,x.A,x.B,x.Table,x.Kinds,x.Left,x.Cond,x.Keys,x.Aggs,x.Items,x.Order,x.Limit))
def OU:I0 A5 aM EG:=va (gZ mu (gZ mu (gZ mu (gZ mu (gZ (wO mu) (gZ mu (gZ Er (gZ (wO mu) (gZ (wO Ts) (gZ (wO Er) (gZ (wO Tq) mu)))))))))))
def YY{hb:Type}(enc:TypeId×Value->hb)(W:World):AF enc bd W 89 A5:=pz (l:=[(3,0),(3,1),(3,2),(3,3),(69,4),(4,5),(84,6),(69,7),(85,8),(86,9),(87,10),(3,11)]) (by kernel_rfl) (by kernel_rfl) (fun y=>⟨⟨y.1,y.2.1,y.2.2.1,y.2.2.2.1,y.2.2.2.2.1,y.2.2.2.2.2.1,y.2.2.2.2.2.2.1,y.2.2.2.2.2.2.2.1,y.2.2.2.2.2.2.2.2.1,y.2.2.2.2.2.2.2.2.2.1,y.2.2.2.2.2.2.2.2.2.2.1,y.2.2.2.2.2.2.2.2.2.2.2⟩,rfl⟩) (fR (z2 enc W) rfl (fR (z2 enc W) rfl (fR (z2 enc W) rfl (fR (z2 enc W) rfl (fR (Qt enc W) rfl (fR (Zb enc W) rfl (fR (Qs enc W) rfl (fR (Qt enc W) rfl (fR (Y7 enc W) rfl (fR (Y0 enc W) rfl (fR (YZ enc W) rfl (td (z2 enc W)))))))))))))
def Za{hb:Type}(enc:TypeId×Value->hb)(W:World):AF enc bd W 68 (f6 A5):=ss j4 (by kernel_rfl) rfl (YY enc W)
def Ii(x:dv):Prop:=(PT EG) x.Nodes/\(vP .i64) x.At/\(vP .i64) x.Way/\(PT (vP .i64)) x.Cols
def Dr:Rp dv:=nN (cH (f6 A5) (cH (zM (rI .i64) (vP .i64)) (cH (zM (rI .i64) (vP .i64)) (f6 (zM (rI .i64) (vP .i64)))))) (fun x=>(x.Nodes,x.At,x.Way,x.Cols))
def QO:I0 Dr cM Ii:=va (gZ (wO OU) (gZ mu (gZ mu (wO mu))))
def Y9{hb:Type}(enc:TypeId×Value->hb)(W:World):AF enc bd W 71 Dr:=pz (l:=[(68,0),(3,1),(3,2),(69,3)]) (by kernel_rfl) (by kernel_rfl) (fun y=>⟨⟨y.1,y.2.1,y.2.2.1,y.2.2.2⟩,rfl⟩) (fR (Za enc W) rfl (fR (z2 enc W) rfl (fR (z2 enc W) rfl (td (Qt enc W)))))
def Ze{hb:Type}(enc:TypeId×Value->hb)(W:World):AF enc bd W 22 (f6 Dr):=ss rA (by kernel_rfl) rfl (Y9 enc W)
def Ih(x:eV):Prop:=(PT Ii) x.Frags
def MY:Rp eV:=nN (f6 Dr) (fun x=>(x.Frags))
def QN:I0 MY gq Ih:=va (wO QO)
def Zd{hb:Type}(enc:TypeId×Value->hb)(W:World):AF enc bd W 24 MY:=pz (l:=[(22,0)]) (by kernel_rfl) (by kernel_rfl) (fun y=>⟨⟨y⟩,rfl⟩) (td (Ze enc W))
def gk{a b:Bool}(h:a=true)(k:b=true):(a&&b)=true:=by rw [h,k];rfl
def y3:(laidOutB Tryz.pinned.checked.prog)=true/\(mapsRowed Tryz.pinned.checked.prog)=true/\((Tryz.pinned.checked.prog.stops==[]))=true/\((Tryz.pinned.checked.prog.stopKnobs==[]))=true/\(Tryz.pinned.checked.prog.stopsHeard)=true/\(Tryz.pinned.checked.prog.mayEnter)=true:=by
 have h:((laidOutB Tryz.pinned.checked.prog)&&((mapsRowed Tryz.pinned.checked.prog)&&(((Tryz.pinned.checked.prog.stops==[]))&&(((Tryz.pinned.checked.prog.stopKnobs==[]))&&((Tryz.pinned.checked.prog.stopsHeard)&&((Tryz.pinned.checked.prog.mayEnter)))))))=true:=by kernel_rfl
 simpa only [pt] using h
end Go.Proofs.YtdohlidddcgfjaaGreat

