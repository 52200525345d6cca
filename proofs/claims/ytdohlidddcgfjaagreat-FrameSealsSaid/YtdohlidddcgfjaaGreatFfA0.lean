/- bS of this claim: A0. -/
import Derived.Test.YtdohlidddcgfjaaGreatRows
import Derived.Test.YtdohlidddcgfjaaGreatFfT
import Derived.Test.YtdohlidddcgfjaaGreatFfV3
import Derived.SevenTiedAt
set_option linter.all false
namespace Go.Proofs.YtdohlidddcgfjaaGreat
open Go Go.ChangeShapes Go.WideShapes Go.ChangeAt Go.RowKit

def X8:ownKnob Tryz.prog.godebug=none:=by kernel_rfl
def Vj:laidOutB aY=true:=by kernel_rfl
def tG{hb:Type}(enc:TypeId×Value->hb)(W:World):vM enc aY W 3 (tg (rI .i64) (oH .i64)):=vq lz (by kernel_rfl)
def RS{hb:Type}(enc:TypeId×Value->hb)(W:World):vM enc aY W 69 (ga (tg (rI .i64) (oH .i64))):=o7 fD (by kernel_rfl) rfl (tG enc W)
def XV{hb:Type}(enc:TypeId×Value->hb)(W:World):vM enc aY W 4 (tg rB WZ):=PN JE (by kernel_rfl)
def acY{hb:Type}(enc:TypeId×Value->hb)(W:World):vM enc aY W 2 (tg (rI .i64) (oH .i64)):=vq CK (by kernel_rfl)
def Oa{hb:Type}(enc:TypeId×Value->hb)(W:World):vM enc aY W 26 (tg (rI .u64) (oH .u64)):=vq zG (by kernel_rfl)
def acW{hb:Type}(enc:TypeId×Value->hb)(W:World):vM enc aY W 9 (tg rS inS):=RP FS (by kernel_rfl)
def Bd(x:am):Prop:=(oH .i64) x.Kind/\(oH .i64) x.N/\(oH .u64) x.U/\inS x.S
def vv:Rp am:=na (co (tg (rI .i64) (oH .i64)) (co (tg (rI .i64) (oH .i64)) (co (tg (rI .u64) (oH .u64)) (tg rS inS)))) (fun x=>(x.Kind,x.N,x.U,x.S))
def GZ:FR vv bg Bd:=qO (dw fX (dw fX (dw fX fX)))
def RT{hb:Type}(enc:TypeId×Value->hb)(W:World):vM enc aY W 104 vv:=lb (l:=[(3,0),(2,1),(26,2),(9,3)]) (by kernel_rfl) (by kernel_rfl) (fun y=>⟨⟨y.1,y.2.1,y.2.2.1,y.2.2.2⟩,rfl⟩) (cR (tG enc W) rfl (cR (acY enc W) rfl (cR (Oa enc W) rfl (oI (acW enc W)))))
def EY(x:ap):Prop:=(oH .i64) x.Tag/\(oH .i64) x.L/\(oH .i64) x.R/\(oH .i64) x.Col/\Bd x.Value
def AX:Rp ap:=na (co (tg (rI .i64) (oH .i64)) (co (tg (rI .i64) (oH .i64)) (co (tg (rI .i64) (oH .i64)) (co (tg (rI .i64) (oH .i64)) vv)))) (fun x=>(x.Tag,x.L,x.R,x.Col,x.Value))
def Ql:FR AX bC EY:=qO (dw fX (dw fX (dw fX (dw fX GZ))))
def XW{hb:Type}(enc:TypeId×Value->hb)(W:World):vM enc aY W 160 AX:=lb (l:=[(3,0),(3,1),(3,2),(3,3),(104,4)]) (by kernel_rfl) (by kernel_rfl) (fun y=>⟨⟨y.1,y.2.1,y.2.2.1,y.2.2.2.1,y.2.2.2.2⟩,rfl⟩) (cR (tG enc W) rfl (cR (tG enc W) rfl (cR (tG enc W) rfl (cR (tG enc W) rfl (oI (RT enc W))))))
def aak{hb:Type}(enc:TypeId×Value->hb)(W:World):vM enc aY W 82 (ga AX):=o7 sK (by kernel_rfl) rfl (XW enc W)
def Be(x:aO):Prop:=(OP EY) x.Nodes
def yJ:Rp aO:=na (ga AX) (fun x=>(x.Nodes))
def EI:FR yJ cW Be:=qO (tM Ql)
def RR{hb:Type}(enc:TypeId×Value->hb)(W:World):vM enc aY W 84 yJ:=lb (l:=[(82,0)]) (by kernel_rfl) (by kernel_rfl) (fun y=>⟨⟨y⟩,rfl⟩) (oI (aak enc W))
def SM(x:eY):Prop:=(oH .i64) x.Tag/\Be x.Arg
def Ix:Rp eY:=na (co (tg (rI .i64) (oH .i64)) yJ) (fun x=>(x.Tag,x.Arg))
def UV:FR Ix fN SM:=qO (dw fX EI)
def XX{hb:Type}(enc:TypeId×Value->hb)(W:World):vM enc aY W 115 Ix:=lb (l:=[(3,0),(84,1)]) (by kernel_rfl) (by kernel_rfl) (fun y=>⟨⟨y.1,y.2⟩,rfl⟩) (cR (tG enc W) rfl (oI (RR enc W)))
def aaj{hb:Type}(enc:TypeId×Value->hb)(W:World):vM enc aY W 85 (ga Ix):=o7 qG (by kernel_rfl) rfl (XX enc W)
def aai{hb:Type}(enc:TypeId×Value->hb)(W:World):vM enc aY W 86 (ga yJ):=o7 xr (by kernel_rfl) rfl (RR enc W)
def SL(x:ku):Prop:=(oH .i64) x.Col/\WZ x.Desc
def Iw:Rp ku:=na (co (tg (rI .i64) (oH .i64)) (tg rB WZ)) (fun x=>(x.Col,x.Desc))
def UT:FR Iw iE SL:=qO (dw fX fX)
def XY{hb:Type}(enc:TypeId×Value->hb)(W:World):vM enc aY W 113 Iw:=lb (l:=[(3,0),(4,1)]) (by kernel_rfl) (by kernel_rfl) (fun y=>⟨⟨y.1,y.2⟩,rfl⟩) (cR (tG enc W) rfl (oI (XV enc W)))
def aah{hb:Type}(enc:TypeId×Value->hb)(W:World):vM enc aY W 87 (ga Iw):=o7 y8 (by kernel_rfl) rfl (XY enc W)
def EX(x:aa):Prop:=(oH .i64) x.Op/\(oH .i64) x.A/\(oH .i64) x.B/\(oH .i64) x.Table/\(OP (oH .i64)) x.Kinds/\WZ x.Left/\Be x.Cond/\(OP (oH .i64)) x.Keys/\(OP SM) x.Aggs/\(OP Be) x.Items/\(OP SL) x.Order/\(oH .i64) x.Limit
def AW:Rp aa:=na (co (tg (rI .i64) (oH .i64)) (co (tg (rI .i64) (oH .i64)) (co (tg (rI .i64) (oH .i64)) (co (tg (rI .i64) (oH .i64)) (co (ga (tg (rI .i64) (oH .i64))) (co (tg rB WZ) (co yJ (co (ga (tg (rI .i64) (oH .i64))) (co (ga Ix) (co (ga yJ) (co (ga Iw) (tg (rI .i64) (oH .i64))))))))))))) (fun x=>(x.Op,x.A,x.B,x.Table,x.Kinds,x.Left,x.Cond,x.Keys,x.Aggs,x.Items,x.Order,x.Limit))
def Qk:FR AW bl EX:=qO (dw fX (dw fX (dw fX (dw fX (dw (tM fX) (dw fX (dw EI (dw (tM fX) (dw (tM UV) (dw (tM EI) (dw (tM UT) fX)))))))))))
def aag{hb:Type}(enc:TypeId×Value->hb)(W:World):vM enc aY W 89 AW:=lb (l:=[(3,0),(3,1),(3,2),(3,3),(69,4),(4,5),(84,6),(69,7),(85,8),(86,9),(87,10),(3,11)]) (by kernel_rfl) (by kernel_rfl) (fun y=>⟨⟨y.1,y.2.1,y.2.2.1,y.2.2.2.1,y.2.2.2.2.1,y.2.2.2.2.2.1,y.2.2.2.2.2.2.1,y.2.2.2.2.2.2.2.1,y.2.2.2.2.2.2.2.2.1,y.2.2.2.2.2.2.2.2.2.1,y.2.2.2.2.2.2.2.2.2.2.1,y.2.2.2.2.2.2.2.2.2.2.2⟩,rfl⟩) (cR (tG enc W) rfl (cR (tG enc W) rfl (cR (tG enc W) rfl (cR (tG enc W) rfl (cR (RS enc W) rfl (cR (XV enc W) rfl (cR (RR enc W) rfl (cR (RS enc W) rfl (cR (aaj enc W) rfl (cR (aai enc W) rfl (cR (aah enc W) rfl (oI (tG enc W)))))))))))))
def aam{hb:Type}(enc:TypeId×Value->hb)(W:World):vM enc aY W 68 (ga AW):=o7 uj (by kernel_rfl) rfl (aag enc W)
def IJ(x:dp):Prop:=(OP EX) x.Nodes/\(oH .i64) x.At/\(oH .i64) x.Way/\(OP (oH .i64)) x.Cols
def Dw:Rp dp:=na (co (ga AW) (co (tg (rI .i64) (oH .i64)) (co (tg (rI .i64) (oH .i64)) (ga (tg (rI .i64) (oH .i64)))))) (fun x=>(x.Nodes,x.At,x.Way,x.Cols))
def Sf:FR Dw cJ IJ:=qO (dw (tM Qk) (dw fX (dw fX (tM fX))))
def aal{hb:Type}(enc:TypeId×Value->hb)(W:World):vM enc aY W 71 Dw:=lb (l:=[(68,0),(3,1),(3,2),(69,3)]) (by kernel_rfl) (by kernel_rfl) (fun y=>⟨⟨y.1,y.2.1,y.2.2.1,y.2.2.2⟩,rfl⟩) (cR (aam enc W) rfl (cR (tG enc W) rfl (cR (tG enc W) rfl (oI (RS enc W)))))
def aav{hb:Type}(enc:TypeId×Value->hb)(W:World):vM enc aY W 22 (ga Dw):=o7 xe (by kernel_rfl) rfl (aal enc W)
def II(x:cV):Prop:=(OP IJ) x.Frags
def Iv:Rp cV:=na (ga Dw) (fun x=>(x.Frags))
def Se:FR Iv mp II:=qO (tM Sf)
def aau{hb:Type}(enc:TypeId×Value->hb)(W:World):vM enc aY W 24 Iv:=lb (l:=[(22,0)]) (by kernel_rfl) (by kernel_rfl) (fun y=>⟨⟨y⟩,rfl⟩) (oI (aav enc W))
def aat{hb:Type}(enc:TypeId×Value->hb)(W:World):vM enc aY W 25 (tg (rI .u32) (oH .u32)):=vq D7 (by kernel_rfl)
def XZ{hb:Type}(enc:TypeId×Value->hb)(W:World):vM enc aY W 102 (ga vv):=o7 AA (by kernel_rfl) rfl (RT enc W)
def aar{hb:Type}(enc:TypeId×Value->hb)(W:World):vM enc aY W 27 (ga (ga vv)):=o7 vm (by kernel_rfl) rfl (XZ enc W)
def KK(x:bI):Prop:=(OP (OP Bd)) x.Rows/\WZ x.End/\(oH .u64) x.Count
def EG:Rp bI:=na (co (ga (ga vv)) (co (tg rB WZ) (tg (rI .u64) (oH .u64)))) (fun x=>(x.Rows,x.End,x.Count))
def Qm:FR EG ky KK:=qO (dw (tM (tM GZ)) (dw fX fX))
def aaq{hb:Type}(enc:TypeId×Value->hb)(W:World):vM enc aY W 29 EG:=lb (l:=[(27,0),(4,1),(26,2)]) (by kernel_rfl) (by kernel_rfl) (fun y=>⟨⟨y.1,y.2.1,y.2.2⟩,rfl⟩) (cR (aar enc W) rfl (cR (XV enc W) rfl (oI (Oa enc W))))
def Hg(x:aI):Prop:=(oH .i64) x.Kind/\(oH .u32) x.Session/\(oH .u64) x.Seq/\(oH .u64) x.Limit/\KK x.Batch
def Cc:Rp aI:=na (co (tg (rI .i64) (oH .i64)) (co (tg (rI .u32) (oH .u32)) (co (tg (rI .u64) (oH .u64)) (co (tg (rI .u64) (oH .u64)) EG)))) (fun x=>(x.Kind,x.Session,x.Seq,x.Limit,x.Batch))
def MA:FR Cc cz Hg:=qO (dw fX (dw fX (dw fX (dw fX Qm))))
def aap{hb:Type}(enc:TypeId×Value->hb)(W:World):vM enc aY W 31 Cc:=lb (l:=[(3,0),(25,1),(26,2),(26,3),(29,4)]) (by kernel_rfl) (by kernel_rfl) (fun y=>⟨⟨y.1,y.2.1,y.2.2.1,y.2.2.2.1,y.2.2.2.2⟩,rfl⟩) (cR (tG enc W) rfl (cR (aat enc W) rfl (cR (Oa enc W) rfl (cR (Oa enc W) rfl (oI (aaq enc W))))))
def aao{hb:Type}(enc:TypeId×Value->hb)(W:World):vM enc aY W 32 (tg (rI .i64) (oH .i64)):=vq Tryz.underlying32 (by kernel_rfl)
def MQ(x:bT):Prop:=(oH .i64) x.Kind/\(oH .i64) x.From/\(oH .i64) x.To/\(oH .i64) x.Epoch/\(oH .i64) x.Frag/\(oH .i64) x.Sites/\II x.Plan/\Hg x.Packet/\(oH .i64) x.Err
def R7:Rp bT:=na (co (tg (rI .i64) (oH .i64)) (co (tg (rI .i64) (oH .i64)) (co (tg (rI .i64) (oH .i64)) (co (tg (rI .i64) (oH .i64)) (co (tg (rI .i64) (oH .i64)) (co (tg (rI .i64) (oH .i64)) (co Iv (co Cc (tg (rI .i64) (oH .i64)))))))))) (fun x=>(x.Kind,x.From,x.To,x.Epoch,x.Frag,x.Sites,x.Plan,x.Packet,x.Err))
def UU:FR R7 fM MQ:=qO (dw fX (dw fX (dw fX (dw fX (dw fX (dw fX (dw Se (dw MA fX))))))))
def aan{hb:Type}(enc:TypeId×Value->hb)(W:World):vM enc aY W 34 R7:=lb (l:=[(3,0),(3,1),(3,2),(3,3),(3,4),(3,5),(24,6),(31,7),(32,14)]) (by kernel_rfl) (by kernel_rfl) (fun y=>⟨⟨y.1,y.2.1,y.2.2.1,y.2.2.2.1,y.2.2.2.2.1,y.2.2.2.2.2.1,y.2.2.2.2.2.2.1,y.2.2.2.2.2.2.2.1,y.2.2.2.2.2.2.2.2⟩,rfl⟩) (cR (tG enc W) rfl (cR (tG enc W) rfl (cR (tG enc W) rfl (cR (tG enc W) rfl (cR (tG enc W) rfl (cR (tG enc W) rfl (cR (aau enc W) rfl (cR (aap enc W) rfl (oI (aao enc W))))))))))
def acX{hb:Type}(enc:TypeId×Value->hb)(W:World):vM enc aY W 5 (tg (rI .u8) (oH .u8)):=vq uZ (by kernel_rfl)
def fI{a b:Bool}(h:a=true)(k:b=true):(a&&b)=true:=by rw [h,k];rfl
def yN:(laidOutB Tryz.pinned.checked.prog)=true/\(mapsRowed Tryz.pinned.checked.prog)=true/\((Tryz.pinned.checked.prog.stops==[]))=true/\((Tryz.pinned.checked.prog.stopKnobs==[]))=true/\(Tryz.pinned.checked.prog.stopsHeard)=true/\(Tryz.pinned.checked.prog.mayEnter)=true:=by
 have h:((laidOutB Tryz.pinned.checked.prog)&&((mapsRowed Tryz.pinned.checked.prog)&&(((Tryz.pinned.checked.prog.stops==[]))&&(((Tryz.pinned.checked.prog.stopKnobs==[]))&&((Tryz.pinned.checked.prog.stopsHeard)&&((Tryz.pinned.checked.prog.mayEnter)))))))=true:=by kernel_rfl
 simpa only [ly] using h
end Go.Proofs.YtdohlidddcgfjaaGreat

