/- cT of this claim: A0. -/
import Derived.Test.YtdohlidddcgfjaaGreatRows
import Derived.Test.YtdohlidddcgfjaaGreatFaT
import Derived.Test.YtdohlidddcgfjaaGreatFaV3
import Derived.SevenTiedAt
set_option linter.all false
namespace Go.Proofs.YtdohlidddcgfjaaGreat
open Go Go.ChangeShapes Go.WideShapes Go.ChangeAt Go.RowKit

theorem Qp:ownKnob Tryz.prog.godebug=none:=by kernel_rfl
theorem NC:laidOutB ba=true:=by kernel_rfl
theorem su{H:Type}(enc:TypeId×Value→H)(W:World):uV enc ba W 3 (sb (rI .i64) (om .i64)):=vp ov (by kernel_rfl)
theorem Ll{H:Type}(enc:TypeId×Value→H)(W:World):uV enc ba W 69 (gB (sb (rI .i64) (om .i64))):=nY cR (by kernel_rfl) rfl (su enc W)
theorem Qh{H:Type}(enc:TypeId×Value→H)(W:World):uV enc ba W 4 (sb rB Py):=JC DF (by kernel_rfl)
theorem UO{H:Type}(enc:TypeId×Value→H)(W:World):uV enc ba W 2 (sb (rI .i64) (om .i64)):=vp zG (by kernel_rfl)
theorem Iw{H:Type}(enc:TypeId×Value→H)(W:World):uV enc ba W 26 (sb (rI .u64) (om .u64)):=vp vc (by kernel_rfl)
theorem UN{H:Type}(enc:TypeId×Value→H)(W:World):uV enc ba W 9 (sb rS UJ):=Li Ad (by kernel_rfl)
def Br(x:aF):Prop:=(om .i64) x.Kind∧(om .i64) x.N∧(om .u64) x.U∧UJ x.S
def tH:Rp aF:=ne (ci (sb (rI .i64) (om .i64)) (ci (sb (rI .i64) (om .i64)) (ci (sb (rI .u64) (om .u64)) (sb rS UJ)))) (fun x=>(x.Kind,x.N,x.U,x.S))
theorem C6:CJ tH bF Br:=px (dr fW (dr fW (dr fW fW)))
theorem Lm{H:Type}(enc:TypeId×Value→H)(W:World):uV enc ba W 104 tH:=jY (l:=[(3,0),(2,1),(26,2),(9,3)]) (by kernel_rfl) (by kernel_rfl) (fun y=>⟨⟨y.1,y.2.1,y.2.2.1,y.2.2.2⟩,rfl⟩) (cL (su enc W) rfl (cL (UO enc W) rfl (cL (Iw enc W) rfl (nL (UN enc W)))))
def F3(x:bC):Prop:=(om .i64) x.Tag∧(om .i64) x.L∧(om .i64) x.R∧(om .i64) x.Col∧Br x.Value
def yg:Rp bC:=ne (ci (sb (rI .i64) (om .i64)) (ci (sb (rI .i64) (om .i64)) (ci (sb (rI .i64) (om .i64)) (ci (sb (rI .i64) (om .i64)) tH)))) (fun x=>(x.Tag,x.L,x.R,x.Col,x.Value))
theorem JX:CJ yg bG F3:=px (dr fW (dr fW (dr fW (dr fW C6))))
theorem Qi{H:Type}(enc:TypeId×Value→H)(W:World):uV enc ba W 160 yg:=jY (l:=[(3,0),(3,1),(3,2),(3,3),(104,4)]) (by kernel_rfl) (by kernel_rfl) (fun y=>⟨⟨y.1,y.2.1,y.2.2.1,y.2.2.2.1,y.2.2.2.2⟩,rfl⟩) (cL (su enc W) rfl (cL (su enc W) rfl (cL (su enc W) rfl (cL (su enc W) rfl (nL (Lm enc W))))))
theorem Si{H:Type}(enc:TypeId×Value→H)(W:World):uV enc ba W 82 (gB yg):=nY jh (by kernel_rfl) rfl (Qi enc W)
def AA(x:bv):Prop:=(KT F3) x.Nodes
def wl:Rp bv:=ne (gB yg) (fun x=>(x.Nodes))
theorem Bg:CJ wl bL AA:=px (rY JX)
theorem Lk{H:Type}(enc:TypeId×Value→H)(W:World):uV enc ba W 84 wl:=jY (l:=[(82,0)]) (by kernel_rfl) (by kernel_rfl) (fun y=>⟨⟨y⟩,rfl⟩) (nL (Si enc W))
def LH(x:fy):Prop:=(om .i64) x.Tag∧AA x.Arg
def D3:Rp fy:=ne (ci (sb (rI .i64) (om .i64)) wl) (fun x=>(x.Tag,x.Arg))
theorem No:CJ D3 eQ LH:=px (dr fW Bg)
theorem Qj{H:Type}(enc:TypeId×Value→H)(W:World):uV enc ba W 115 D3:=jY (l:=[(3,0),(84,1)]) (by kernel_rfl) (by kernel_rfl) (fun y=>⟨⟨y.1,y.2⟩,rfl⟩) (cL (su enc W) rfl (nL (Lk enc W)))
theorem Sh{H:Type}(enc:TypeId×Value→H)(W:World):uV enc ba W 85 (gB D3):=nY jR (by kernel_rfl) rfl (Qj enc W)
theorem Sg{H:Type}(enc:TypeId×Value→H)(W:World):uV enc ba W 86 (gB wl):=nY pr (by kernel_rfl) rfl (Lk enc W)
def LF(x:kq):Prop:=(om .i64) x.Col∧Py x.Desc
def D2:Rp kq:=ne (ci (sb (rI .i64) (om .i64)) (sb rB Py)) (fun x=>(x.Col,x.Desc))
theorem Nn:CJ D2 iY LF:=px (dr fW fW)
theorem Qk{H:Type}(enc:TypeId×Value→H)(W:World):uV enc ba W 113 D2:=jY (l:=[(3,0),(4,1)]) (by kernel_rfl) (by kernel_rfl) (fun y=>⟨⟨y.1,y.2⟩,rfl⟩) (cL (su enc W) rfl (nL (Qh enc W)))
theorem Sf{H:Type}(enc:TypeId×Value→H)(W:World):uV enc ba W 87 (gB D2):=nY pR (by kernel_rfl) rfl (Qk enc W)
def F2(x:ap):Prop:=(om .i64) x.Op∧(om .i64) x.A∧(om .i64) x.B∧(om .i64) x.Table∧(KT (om .i64)) x.Kinds∧Py x.Left∧AA x.Cond∧(KT (om .i64)) x.Keys∧(KT LH) x.Aggs∧(KT AA) x.Items∧(KT LF) x.Order∧(om .i64) x.Limit
def yf:Rp ap:=ne (ci (sb (rI .i64) (om .i64)) (ci (sb (rI .i64) (om .i64)) (ci (sb (rI .i64) (om .i64)) (ci (sb (rI .i64) (om .i64)) (ci (gB (sb (rI .i64) (om .i64))) (ci (sb rB Py) (ci wl (ci (gB (sb (rI .i64) (om .i64))) (ci (gB D3) (ci (gB wl) (ci (gB D2) (sb (rI .i64) (om .i64))))))))))))) (fun x=>(x.Op,x.A,x.B,x.Table,x.Kinds,x.Left,x.Cond,x.Keys,x.Aggs,x.Items,x.Order,x.Limit))
theorem JW:CJ yf aJ F2:=px (dr fW (dr fW (dr fW (dr fW (dr (rY fW) (dr fW (dr Bg (dr (rY fW) (dr (rY No) (dr (rY Bg) (dr (rY Nn) fW)))))))))))
theorem Se{H:Type}(enc:TypeId×Value→H)(W:World):uV enc ba W 89 yf:=jY (l:=[(3,0),(3,1),(3,2),(3,3),(69,4),(4,5),(84,6),(69,7),(85,8),(86,9),(87,10),(3,11)]) (by kernel_rfl) (by kernel_rfl) (fun y=>⟨⟨y.1,y.2.1,y.2.2.1,y.2.2.2.1,y.2.2.2.2.1,y.2.2.2.2.2.1,y.2.2.2.2.2.2.1,y.2.2.2.2.2.2.2.1,y.2.2.2.2.2.2.2.2.1,y.2.2.2.2.2.2.2.2.2.1,y.2.2.2.2.2.2.2.2.2.2.1,y.2.2.2.2.2.2.2.2.2.2.2⟩,rfl⟩) (cL (su enc W) rfl (cL (su enc W) rfl (cL (su enc W) rfl (cL (su enc W) rfl (cL (Ll enc W) rfl (cL (Qh enc W) rfl (cL (Lk enc W) rfl (cL (Ll enc W) rfl (cL (Sh enc W) rfl (cL (Sg enc W) rfl (cL (Sf enc W) rfl (nL (su enc W)))))))))))))
theorem Sk{H:Type}(enc:TypeId×Value→H)(W:World):uV enc ba W 68 (gB yf):=nY ji (by kernel_rfl) rfl (Se enc W)
def IN(x:ez):Prop:=(KT F2) x.Nodes∧(om .i64) x.At∧(om .i64) x.Way∧(KT (om .i64)) x.Cols
def Au:Rp ez:=ne (ci (gB yf) (ci (sb (rI .i64) (om .i64)) (ci (sb (rI .i64) (om .i64)) (gB (sb (rI .i64) (om .i64)))))) (fun x=>(x.Nodes,x.At,x.Way,x.Cols))
theorem Lv:CJ Au fa IN:=px (dr (rY JW) (dr fW (dr fW (rY fW))))
theorem Sj{H:Type}(enc:TypeId×Value→H)(W:World):uV enc ba W 71 Au:=jY (l:=[(68,0),(3,1),(3,2),(69,3)]) (by kernel_rfl) (by kernel_rfl) (fun y=>⟨⟨y.1,y.2.1,y.2.2.1,y.2.2.2⟩,rfl⟩) (cL (Sk enc W) rfl (cL (su enc W) rfl (cL (su enc W) rfl (nL (Ll enc W)))))
theorem Sr{H:Type}(enc:TypeId×Value→H)(W:World):uV enc ba W 22 (gB Au):=nY pS (by kernel_rfl) rfl (Sj enc W)
def IM(x:dn):Prop:=(KT IN) x.Frags
def D1:Rp dn:=ne (gB Au) (fun x=>(x.Frags))
theorem Lu:CJ D1 iy IM:=px (rY Lv)
theorem Sq{H:Type}(enc:TypeId×Value→H)(W:World):uV enc ba W 24 D1:=jY (l:=[(22,0)]) (by kernel_rfl) (by kernel_rfl) (fun y=>⟨⟨y⟩,rfl⟩) (nL (Sr enc W))
theorem Sp{H:Type}(enc:TypeId×Value→H)(W:World):uV enc ba W 25 (sb (rI .u32) (om .u32)):=vp E0 (by kernel_rfl)
theorem Ql{H:Type}(enc:TypeId×Value→H)(W:World):uV enc ba W 102 (gB tH):=nY pY (by kernel_rfl) rfl (Lm enc W)
theorem So{H:Type}(enc:TypeId×Value→H)(W:World):uV enc ba W 27 (gB (gB tH)):=nY nV (by kernel_rfl) rfl (Ql enc W)
def F4(x:dH):Prop:=(KT (KT Br)) x.Rows∧Py x.End∧(om .u64) x.Count
def Bf:Rp dH:=ne (ci (gB (gB tH)) (ci (sb rB Py) (sb (rI .u64) (om .u64)))) (fun x=>(x.Rows,x.End,x.Count))
theorem JY:CJ Bf lv F4:=px (dr (rY (rY C6)) (dr fW fW))
theorem Sn{H:Type}(enc:TypeId×Value→H)(W:World):uV enc ba W 29 Bf:=jY (l:=[(27,0),(4,1),(26,2)]) (by kernel_rfl) (by kernel_rfl) (fun y=>⟨⟨y.1,y.2.1,y.2.2⟩,rfl⟩) (cL (So enc W) rfl (cL (Qh enc W) rfl (nL (Iw enc W))))
def Dg(x:co):Prop:=(om .i64) x.Kind∧(om .u32) x.Session∧(om .u64) x.Seq∧(om .u64) x.Limit∧F4 x.Batch
def za:Rp co:=ne (ci (sb (rI .i64) (om .i64)) (ci (sb (rI .u32) (om .u32)) (ci (sb (rI .u64) (om .u64)) (ci (sb (rI .u64) (om .u64)) Bf)))) (fun x=>(x.Kind,x.Session,x.Seq,x.Limit,x.Batch))
theorem Ht:CJ za eU Dg:=px (dr fW (dr fW (dr fW (dr fW JY))))
theorem Sm{H:Type}(enc:TypeId×Value→H)(W:World):uV enc ba W 31 za:=jY (l:=[(3,0),(25,1),(26,2),(26,3),(29,4)]) (by kernel_rfl) (by kernel_rfl) (fun y=>⟨⟨y.1,y.2.1,y.2.2.1,y.2.2.2.1,y.2.2.2.2⟩,rfl⟩) (cL (su enc W) rfl (cL (Sp enc W) rfl (cL (Iw enc W) rfl (cL (Iw enc W) rfl (nL (Sn enc W))))))
theorem Sl{H:Type}(enc:TypeId×Value→H)(W:World):uV enc ba W 32 (sb (rI .i64) (om .i64)):=vp Tryz.underlying32 (by kernel_rfl)
def Qv(x:cu):Prop:=(om .i64) x.Kind∧(om .i64) x.From∧(om .i64) x.To∧(om .i64) x.Epoch∧(om .i64) x.Frag∧(om .i64) x.Sites∧IM x.Plan∧Dg x.Packet∧(om .i64) x.Err
def Lr:Rp cu:=ne (ci (sb (rI .i64) (om .i64)) (ci (sb (rI .i64) (om .i64)) (ci (sb (rI .i64) (om .i64)) (ci (sb (rI .i64) (om .i64)) (ci (sb (rI .i64) (om .i64)) (ci (sb (rI .i64) (om .i64)) (ci D1 (ci za (sb (rI .i64) (om .i64)))))))))) (fun x=>(x.Kind,x.From,x.To,x.Epoch,x.Frag,x.Sites,x.Plan,x.Packet,x.Err))
theorem IF:CJ Lr dN Qv:=px (dr fW (dr fW (dr fW (dr fW (dr fW (dr fW (dr Lu (dr Ht fW))))))))
theorem Pr{H:Type}(enc:TypeId×Value→H)(W:World):uV enc ba W 34 Lr:=jY (l:=[(3,0),(3,1),(3,2),(3,3),(3,4),(3,5),(24,6),(31,7),(32,14)]) (by kernel_rfl) (by kernel_rfl) (fun y=>⟨⟨y.1,y.2.1,y.2.2.1,y.2.2.2.1,y.2.2.2.2.1,y.2.2.2.2.2.1,y.2.2.2.2.2.2.1,y.2.2.2.2.2.2.2.1,y.2.2.2.2.2.2.2.2⟩,rfl⟩) (cL (su enc W) rfl (cL (su enc W) rfl (cL (su enc W) rfl (cL (su enc W) rfl (cL (su enc W) rfl (cL (su enc W) rfl (cL (Sq enc W) rfl (cL (Sm enc W) rfl (nL (Sl enc W))))))))))
theorem fm{a b:Bool}(h:a=true)(k:b=true):(a&&b)=true:=by rw [h,k];rfl
theorem wt:(laidOutB Tryz.pinned.checked.prog)=true∧(mapsRowed Tryz.pinned.checked.prog)=true∧((Tryz.pinned.checked.prog.stops==[]))=true∧((Tryz.pinned.checked.prog.stopKnobs==[]))=true∧(Tryz.pinned.checked.prog.stopsHeard)=true∧(Tryz.pinned.checked.prog.mayEnter)=true:=by
 have h:((laidOutB Tryz.pinned.checked.prog)&&((mapsRowed Tryz.pinned.checked.prog)&&(((Tryz.pinned.checked.prog.stops==[]))&&(((Tryz.pinned.checked.prog.stopKnobs==[]))&&((Tryz.pinned.checked.prog.stopsHeard)&&((Tryz.pinned.checked.prog.mayEnter)))))))=true:=by kernel_rfl
 simpa only [gX] using h
end Go.Proofs.YtdohlidddcgfjaaGreat

