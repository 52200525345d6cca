/- cW of this claim: A0. -/
import Derived.Test.YtbmmihfagmchaaaGreatRows
import Derived.Test.YtbmmihfagmchaaaGreatRcT
import Derived.Test.YtbmmihfagmchaaaGreatRcV3
import Derived.SevenTiedAt
set_option linter.all false
namespace Go.Proofs.YtbmmihfagmchaaaGreat
open Go Go.ChangeShapes Go.WideShapes Go.ChangeAt Go.RowKit

def Oo:ownKnob Tryz.prog.godebug=none:=by kernel_rfl
def LX:laidOutB bh=true:=by kernel_rfl
def xF{tD:Type}(enc:TypeId×Value->tD)(W:World):xo enc bh W 3 (wQ (rI .i64) (tR .i64)):=zP qb (by kernel_rfl)
def Ns{tD:Type}(enc:TypeId×Value->tD)(W:World):xo enc bh W 23 (gJ (wQ (rI .i64) (tR .i64))):=qu gr (by kernel_rfl) rfl (xF enc W)
def PZ{tD:Type}(enc:TypeId×Value->tD)(W:World):xo enc bh W 4 (wQ rB PJ):=H5 Jh (by kernel_rfl)
def RU{tD:Type}(enc:TypeId×Value->tD)(W:World):xo enc bh W 2 (wQ (rI .i64) (tR .i64)):=zP Tryz.underlying2 (by kernel_rfl)
def PV{tD:Type}(enc:TypeId×Value->tD)(W:World):xo enc bh W 59 (wQ (rI .u64) (tR .u64)):=zP Tryz.underlying59 (by kernel_rfl)
def RT{tD:Type}(enc:TypeId×Value->tD)(W:World):xo enc bh W 9 (wQ rS RK):=Jq DE (by kernel_rfl)
def Eo(x:bN):Prop:=(tR .i64) x.Kind/\(tR .i64) x.N/\(tR .u64) x.U/\RK x.S
def Ah:Rp bN:=nP (cx (wQ (rI .i64) (tR .i64)) (cx (wQ (rI .i64) (tR .i64)) (cx (wQ (rI .u64) (tR .u64)) (wQ rS RK)))) (fun x=>(x.Kind,x.N,x.U,x.S))
def If:Fi Ah dA Eo:=s8 (gx kO (gx kO (gx kO kO)))
def PU{tD:Type}(enc:TypeId×Value->tD)(W:World):xo enc bh W 61 Ah:=nj (l:=[(3,0),(2,1),(59,2),(9,3)]) (by kernel_rfl) (by kernel_rfl) (fun y=>⟨⟨y.1,y.2.1,y.2.2.1,y.2.2.2⟩,rfl⟩) (fh (xF enc W) rfl (fh (RU enc W) rfl (fh (PV enc W) rfl (q6 (RT enc W)))))
def Er(x:aj):Prop:=(tR .i64) x.Tag/\(tR .i64) x.L/\(tR .i64) x.R/\(tR .i64) x.Col/\Eo x.Value
def wM:Rp aj:=nP (cx (wQ (rI .i64) (tR .i64)) (cx (wQ (rI .i64) (tR .i64)) (cx (wQ (rI .i64) (tR .i64)) (cx (wQ (rI .i64) (tR .i64)) Ah)))) (fun x=>(x.Tag,x.L,x.R,x.Col,x.Value))
def Ii:Fi wM ap Er:=s8 (gx kO (gx kO (gx kO (gx kO If))))
def PT{tD:Type}(enc:TypeId×Value->tD)(W:World):xo enc bh W 63 wM:=nj (l:=[(3,0),(3,1),(3,2),(3,3),(61,4)]) (by kernel_rfl) (by kernel_rfl) (fun y=>⟨⟨y.1,y.2.1,y.2.2.1,y.2.2.2.1,y.2.2.2.2⟩,rfl⟩) (fh (xF enc W) rfl (fh (xF enc W) rfl (fh (xF enc W) rfl (fh (xF enc W) rfl (q6 (PU enc W))))))
def Qc{tD:Type}(enc:TypeId×Value->tD)(W:World):xo enc bh W 25 (gJ wM):=qu na (by kernel_rfl) rfl (PT enc W)
def zj(x:ai):Prop:=(Nz Er) x.Nodes
def uV:Rp ai:=nP (gJ wM) (fun x=>(x.Nodes))
def Ai:Fi uV af zj:=s8 (wc Ii)
def Js{tD:Type}(enc:TypeId×Value->tD)(W:World):xo enc bh W 27 uV:=nj (l:=[(25,0)]) (by kernel_rfl) (by kernel_rfl) (fun y=>⟨⟨y⟩,rfl⟩) (q6 (Qc enc W))
def JS(x:gQ):Prop:=(tR .i64) x.Tag/\zj x.Arg
def CR:Rp gQ:=nP (cx (wQ (rI .i64) (tR .i64)) uV) (fun x=>(x.Tag,x.Arg))
def LL:Fi CR dl JS:=s8 (gx kO Ai)
def PS{tD:Type}(enc:TypeId×Value->tD)(W:World):xo enc bh W 77 CR:=nj (l:=[(3,0),(27,1)]) (by kernel_rfl) (by kernel_rfl) (fun y=>⟨⟨y.1,y.2⟩,rfl⟩) (fh (xF enc W) rfl (q6 (Js enc W)))
def PY{tD:Type}(enc:TypeId×Value->tD)(W:World):xo enc bh W 52 (gJ CR):=qu qc (by kernel_rfl) rfl (PS enc W)
def Qd{tD:Type}(enc:TypeId×Value->tD)(W:World):xo enc bh W 22 (gJ uV):=qu kX (by kernel_rfl) rfl (Js enc W)
def JQ(x:jU):Prop:=(tR .i64) x.Col/\PJ x.Desc
def CQ:Rp jU:=nP (cx (wQ (rI .i64) (tR .i64)) (wQ rB PJ)) (fun x=>(x.Col,x.Desc))
def LK:Fi CQ eQ JQ:=s8 (gx kO kO)
def PR{tD:Type}(enc:TypeId×Value->tD)(W:World):xo enc bh W 81 CQ:=nj (l:=[(3,0),(4,1)]) (by kernel_rfl) (by kernel_rfl) (fun y=>⟨⟨y.1,y.2⟩,rfl⟩) (fh (xF enc W) rfl (q6 (PZ enc W)))
def PX{tD:Type}(enc:TypeId×Value->tD)(W:World):xo enc bh W 53 (gJ CQ):=qu t7 (by kernel_rfl) rfl (PR enc W)
def Ep(x:aa):Prop:=(tR .i64) x.Op/\(tR .i64) x.A/\(tR .i64) x.B/\(tR .i64) x.Table/\(Nz (tR .i64)) x.Kinds/\PJ x.Left/\zj x.Cond/\(Nz (tR .i64)) x.Keys/\(Nz JS) x.Aggs/\(Nz zj) x.Items/\(Nz JQ) x.Order/\(tR .i64) x.Limit
def wL:Rp aa:=nP (cx (wQ (rI .i64) (tR .i64)) (cx (wQ (rI .i64) (tR .i64)) (cx (wQ (rI .i64) (tR .i64)) (cx (wQ (rI .i64) (tR .i64)) (cx (gJ (wQ (rI .i64) (tR .i64))) (cx (wQ rB PJ) (cx uV (cx (gJ (wQ (rI .i64) (tR .i64))) (cx (gJ CR) (cx (gJ uV) (cx (gJ CQ) (wQ (rI .i64) (tR .i64))))))))))))) (fun x=>(x.Op,x.A,x.B,x.Table,x.Kinds,x.Left,x.Cond,x.Keys,x.Aggs,x.Items,x.Order,x.Limit))
def Ih:Fi wL ak Ep:=s8 (gx kO (gx kO (gx kO (gx kO (gx (wc kO) (gx kO (gx Ai (gx (wc kO) (gx (wc LL) (gx (wc Ai) (gx (wc LK) kO)))))))))))
def PW{tD:Type}(enc:TypeId×Value->tD)(W:World):xo enc bh W 55 wL:=nj (l:=[(3,0),(3,1),(3,2),(3,3),(23,4),(4,5),(27,6),(23,7),(52,8),(22,9),(53,10),(3,11)]) (by kernel_rfl) (by kernel_rfl) (fun y=>⟨⟨y.1,y.2.1,y.2.2.1,y.2.2.2.1,y.2.2.2.2.1,y.2.2.2.2.2.1,y.2.2.2.2.2.2.1,y.2.2.2.2.2.2.2.1,y.2.2.2.2.2.2.2.2.1,y.2.2.2.2.2.2.2.2.2.1,y.2.2.2.2.2.2.2.2.2.2.1,y.2.2.2.2.2.2.2.2.2.2.2⟩,rfl⟩) (fh (xF enc W) rfl (fh (xF enc W) rfl (fh (xF enc W) rfl (fh (xF enc W) rfl (fh (Ns enc W) rfl (fh (PZ enc W) rfl (fh (Js enc W) rfl (fh (Ns enc W) rfl (fh (PY enc W) rfl (fh (Qd enc W) rfl (fh (PX enc W) rfl (q6 (xF enc W)))))))))))))
def Qb{tD:Type}(enc:TypeId×Value->tD)(W:World):xo enc bh W 37 (gJ wL):=qu jW (by kernel_rfl) rfl (PW enc W)
def JR(x:aw):Prop:=(Nz Ep) x.Nodes
def D4:Rp aw:=nP (gJ wL) (fun x=>(x.Nodes))
def Ig:Fi D4 ay JR:=s8 (wc Ih)
def Qa{tD:Type}(enc:TypeId×Value->tD)(W:World):xo enc bh W 39 D4:=nj (l:=[(37,0)]) (by kernel_rfl) (by kernel_rfl) (fun y=>⟨⟨y⟩,rfl⟩) (q6 (Qb enc W))
def eI{a b:Bool}(h:a=true)(k:b=true):(a&&b)=true:=by rw [h,k];rfl
def uY:(laidOutB Tryz.pinned.checked.prog)=true/\(mapsRowed Tryz.pinned.checked.prog)=true/\((Tryz.pinned.checked.prog.stops==[]))=true/\((Tryz.pinned.checked.prog.stopKnobs==[]))=true/\(Tryz.pinned.checked.prog.stopsHeard)=true/\(Tryz.pinned.checked.prog.mayEnter)=true:=by
 have h:((laidOutB Tryz.pinned.checked.prog)&&((mapsRowed Tryz.pinned.checked.prog)&&(((Tryz.pinned.checked.prog.stops==[]))&&(((Tryz.pinned.checked.prog.stopKnobs==[]))&&((Tryz.pinned.checked.prog.stopsHeard)&&((Tryz.pinned.checked.prog.mayEnter)))))))=true:=by kernel_rfl
 simpa only [jX] using h
end Go.Proofs.YtbmmihfagmchaaaGreat

