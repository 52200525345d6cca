/- db of this claim: A0. -/
import Derived.Test.YtbmmihfagmchaaaGreatRows
import Derived.Test.YtbmmihfagmchaaaGreatRaT
import Derived.Test.YtbmmihfagmchaaaGreatRaV3
import Derived.SevenTiedAt
set_option linter.all false
namespace Go.Proofs.YtbmmihfagmchaaaGreat
open Go Go.ChangeShapes Go.WideShapes Go.ChangeAt Go.RowKit

def FL:ownKnob Tryz.prog.godebug=none:=by kernel_rfl
def D9:laidOutB bf=true:=by kernel_rfl
def Bd{h2:Type}(enc:TypeId×Value->h2)(W:World):u0 enc bf W 3 (xA (rI .i64) (wU .i64)):=ua mL (by kernel_rfl)
def Is{h2:Type}(enc:TypeId×Value->h2)(W:World):u0 enc bf W 2 (xA (rI .i64) (wU .i64)):=ua Tryz.underlying2 (by kernel_rfl)
def GV{h2:Type}(enc:TypeId×Value->h2)(W:World):u0 enc bf W 59 (xA (rI .u64) (wU .u64)):=ua Tryz.underlying59 (by kernel_rfl)
def Iq{h2:Type}(enc:TypeId×Value->h2)(W:World):u0 enc bf W 9 (xA rS Ik):=Cf AY (by kernel_rfl)
def yu(x:bT):Prop:=(wU .i64) x.Kind/\(wU .i64) x.N/\(wU .u64) x.U/\Ik x.S
def uu:Rp bT:=lO (cC (xA (rI .i64) (wU .i64)) (cC (xA (rI .i64) (wU .i64)) (cC (xA (rI .u64) (wU .u64)) (xA rS Ik)))) (fun x=>(x.Kind,x.N,x.U,x.S))
def Bm:BJ uu cH yu:=wL (mQ nW (mQ nW (mQ nW nW)))
def GU{h2:Type}(enc:TypeId×Value->h2)(W:World):u0 enc bf W 61 uu:=qE (l:=[(3,0),(2,1),(59,2),(9,3)]) (by kernel_rfl) (by kernel_rfl) (fun y=>⟨⟨y.1,y.2.1,y.2.2.1,y.2.2.2⟩,rfl⟩) (lq (Bd enc W) rfl (lq (Is enc W) rfl (lq (GV enc W) rfl (uI (Iq enc W)))))
def yw(x:aj):Prop:=(wU .i64) x.Tag/\(wU .i64) x.L/\(wU .i64) x.R/\(wU .i64) x.Col/\yu x.Value
def rl:Rp aj:=lO (cC (xA (rI .i64) (wU .i64)) (cC (xA (rI .i64) (wU .i64)) (cC (xA (rI .i64) (wU .i64)) (cC (xA (rI .i64) (wU .i64)) uu)))) (fun x=>(x.Tag,x.L,x.R,x.Col,x.Value))
def Bn:BJ rl ai yw:=wL (mQ nW (mQ nW (mQ nW (mQ nW Bm))))
def GT{h2:Type}(enc:TypeId×Value->h2)(W:World):u0 enc bf W 63 rl:=qE (l:=[(3,0),(3,1),(3,2),(3,3),(61,4)]) (by kernel_rfl) (by kernel_rfl) (fun y=>⟨⟨y.1,y.2.1,y.2.2.1,y.2.2.2.1,y.2.2.2.2⟩,rfl⟩) (lq (Bd enc W) rfl (lq (Bd enc W) rfl (lq (Bd enc W) rfl (lq (Bd enc W) rfl (uI (GU enc W))))))
def GX{h2:Type}(enc:TypeId×Value->h2)(W:World):u0 enc bf W 25 (eY rl):=sb hM (by kernel_rfl) rfl (GT enc W)
def D7(x:af):Prop:=(inL yw) x.Nodes
def wK:Rp af:=lO (eY rl) (fun x=>(x.Nodes))
def Cn:BJ wK hf D7:=wL (zx Bn)
def GW{h2:Type}(enc:TypeId×Value->h2)(W:World):u0 enc bf W 27 wK:=qE (l:=[(25,0)]) (by kernel_rfl) (by kernel_rfl) (fun y=>⟨⟨y⟩,rfl⟩) (uI (GX enc W))
def GZ{h2:Type}(enc:TypeId×Value->h2)(W:World):u0 enc bf W 22 (eY wK):=sb gx (by kernel_rfl) rfl (GW enc W)
def GY{h2:Type}(enc:TypeId×Value->h2)(W:World):u0 enc bf W 23 (eY (xA (rI .i64) (wU .i64))):=sb ed (by kernel_rfl) rfl (Bd enc W)
def Ir{h2:Type}(enc:TypeId×Value->h2)(W:World):u0 enc bf W 4 (xA rB inT):=Bc Tryz.underlying4 (by kernel_rfl)
def dl{a b:Bool}(h:a=true)(k:b=true):(a&&b)=true:=by rw [h,k];rfl
def pZ:(laidOutB Tryz.pinned.checked.prog)=true/\(mapsRowed Tryz.pinned.checked.prog)=true/\((Tryz.pinned.checked.prog.stops==[]))=true/\((Tryz.pinned.checked.prog.stopKnobs==[]))=true/\(Tryz.pinned.checked.prog.stopsHeard)=true/\(Tryz.pinned.checked.prog.mayEnter)=true:=by
 have h:((laidOutB Tryz.pinned.checked.prog)&&((mapsRowed Tryz.pinned.checked.prog)&&(((Tryz.pinned.checked.prog.stops==[]))&&(((Tryz.pinned.checked.prog.stopKnobs==[]))&&((Tryz.pinned.checked.prog.stopsHeard)&&((Tryz.pinned.checked.prog.mayEnter)))))))=true:=by kernel_rfl
 simpa only [kA] using h
end Go.Proofs.YtbmmihfagmchaaaGreat

