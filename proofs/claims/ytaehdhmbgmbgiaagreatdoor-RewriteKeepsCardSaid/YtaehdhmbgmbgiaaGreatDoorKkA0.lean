import Derived.Test.YtaehdhmbgmbgiaaGreatDoorRows
import Derived.Test.YtaehdhmbgmbgiaaGreatDoorKkT
import Derived.Test.YtaehdhmbgmbgiaaGreatDoorKkV3
import Derived.ProofKit
import Derived.SevenTiedAt
set_option linter.all false
namespace Go.Proofs.YtaehdhmbgmbgiaaGreatDoor
open Go Go.ChangeShapes Go.WideShapes Go.ChangeAt Go.RowKit
def agD:ownKnob Tryz.prog.godebug=none:=by kernel_rfl
def acG:laidOutB aP=true:=by kernel_rfl
def Hn{hb:Type}(enc:TypeId×Value->hb)(W:World):Ei enc aP W 3 (Gt (rI .i64) (B2 .i64)):=KL me (by kernel_rfl)
def afc{hb:Type}(enc:TypeId×Value->hb)(W:World):Ei enc aP W 44 (gM (Gt (rI .i64) (B2 .i64))):=s0 iG (by kernel_rfl) rfl (Hn enc W)
def aiC{hb:Type}(enc:TypeId×Value->hb)(W:World):Ei enc aP W 4 (Gt rB inT):=XT NX (by kernel_rfl)
def alo{hb:Type}(enc:TypeId×Value->hb)(W:World):Ei enc aP W 2 (Gt (rI .i64) (B2 .i64)):=KL FO (by kernel_rfl)
def ait{hb:Type}(enc:TypeId×Value->hb)(W:World):Ei enc aP W 70 (Gt (rI .u64) (B2 .u64)):=KL FQ (by kernel_rfl)
def aln{hb:Type}(enc:TypeId×Value->hb)(W:World):Ei enc aP W 9 (Gt rS inS):=Zl Eo (by kernel_rfl)
def AH(x:ac):Prop:=(B2 .i64) x.Kind/\(B2 .i64) x.N/\(B2 .u64) x.U/\inS x.S
def yQ:Rp ac:=sr (dD (Gt (rI .i64) (B2 .i64)) (dD (Gt (rI .i64) (B2 .i64)) (dD (Gt (rI .u64) (B2 .u64)) (Gt rS inS)))) (fun x=>(x.Kind,x.N,x.U,x.S))
def Ok:Rc yQ ah AH:=zA (kM qv (kM qv (kM qv qv)))
def afb{hb:Type}(enc:TypeId×Value->hb)(W:World):Ei enc aP W 72 yQ:=rZ (l:=[(3,0),(2,1),(70,2),(9,3)]) (by kernel_rfl) (by kernel_rfl) (fun y=>⟨⟨y.1,y.2.1,y.2.2.1,y.2.2.2⟩,rfl⟩) (jn (Hn enc W) rfl (jn (alo enc W) rfl (jn (ait enc W) rfl (xa (aln enc W)))))
def LI(x:av):Prop:=(B2 .i64) x.Tag/\(B2 .i64) x.L/\(B2 .i64) x.R/\(B2 .i64) x.X'/\AH x.Value
def Gl:Rp av:=sr (dD (Gt (rI .i64) (B2 .i64)) (dD (Gt (rI .i64) (B2 .i64)) (dD (Gt (rI .i64) (B2 .i64)) (dD (Gt (rI .i64) (B2 .i64)) yQ)))) (fun x=>(x.Tag,x.L,x.R,x.X',x.Value))
def X7:Rc Gl aJ LI:=zA (kM qv (kM qv (kM qv (kM qv Ok))))
def agu{hb:Type}(enc:TypeId×Value->hb)(W:World):Ei enc aP W 101 Gl:=rZ (l:=[(3,0),(3,1),(3,2),(3,3),(72,4)]) (by kernel_rfl) (by kernel_rfl) (fun y=>⟨⟨y.1,y.2.1,y.2.2.1,y.2.2.2.1,y.2.2.2.2⟩,rfl⟩) (jn (Hn enc W) rfl (jn (Hn enc W) rfl (jn (Hn enc W) rfl (jn (Hn enc W) rfl (xa (afb enc W))))))
def aiB{hb:Type}(enc:TypeId×Value->hb)(W:World):Ei enc aP W 45 (gM Gl):=s0 j6 (by kernel_rfl) rfl (agu enc W)
def Gz(x:au):Prop:=(Q9 LI) x.j'
def Dq:Rp au:=sr (gM Gl) (fun x=>(x.j'))
def Lo:Rc Dq ap Gz:=zA (z8 X7)
def Zn{hb:Type}(enc:TypeId×Value->hb)(W:World):Ei enc aP W 47 Dq:=rZ (l:=[(45,0)]) (by kernel_rfl) (by kernel_rfl) (fun y=>⟨⟨y⟩,rfl⟩) (xa (aiB enc W))
def ZY(x:jx):Prop:=(B2 .i64) x.Tag/\Gz x.Arg
def PM:Rp jx:=sr (dD (Gt (rI .i64) (B2 .i64)) Dq) (fun x=>(x.Tag,x.Arg))
def acl:Rc PM eI ZY:=zA (kM qv Lo)
def aiw{hb:Type}(enc:TypeId×Value->hb)(W:World):Ei enc aP W 59 PM:=rZ (l:=[(3,0),(47,1)]) (by kernel_rfl) (by kernel_rfl) (fun y=>⟨⟨y.1,y.2⟩,rfl⟩) (jn (Hn enc W) rfl (xa (Zn enc W)))
def aiA{hb:Type}(enc:TypeId×Value->hb)(W:World):Ei enc aP W 48 (gM PM):=s0 wO (by kernel_rfl) rfl (aiw enc W)
def aiz{hb:Type}(enc:TypeId×Value->hb)(W:World):Ei enc aP W 49 (gM Dq):=s0 qp (by kernel_rfl) rfl (Zn enc W)
def ZX(x:kU):Prop:=(B2 .i64) x.X'/\inT x.Q_
def PL:Rp kU:=sr (dD (Gt (rI .i64) (B2 .i64)) (Gt rB inT)) (fun x=>(x.X',x.Q_))
def ack:Rc PL fM ZX:=zA (kM qv qv)
def aiv{hb:Type}(enc:TypeId×Value->hb)(W:World):Ei enc aP W 63 PL:=rZ (l:=[(3,0),(4,1)]) (by kernel_rfl) (by kernel_rfl) (fun y=>⟨⟨y.1,y.2⟩,rfl⟩) (jn (Hn enc W) rfl (xa (aiC enc W)))
def aiy{hb:Type}(enc:TypeId×Value->hb)(W:World):Ei enc aP W 50 (gM PL):=s0 A6 (by kernel_rfl) rfl (aiv enc W)
def Gy(x:ai):Prop:=(B2 .i64) x.Op/\(B2 .i64) x.A/\(B2 .i64) x.B/\(B2 .i64) x.Table/\(Q9 (B2 .i64)) x.P'/\inT x.Left/\Gz x.J'/\(Q9 (B2 .i64)) x.Q'/\(Q9 ZY) x.M'/\(Q9 Gz) x.I'/\(Q9 ZX) x.R'/\(B2 .i64) x.U'
def Gk:Rp ai:=sr (dD (Gt (rI .i64) (B2 .i64)) (dD (Gt (rI .i64) (B2 .i64)) (dD (Gt (rI .i64) (B2 .i64)) (dD (Gt (rI .i64) (B2 .i64)) (dD (gM (Gt (rI .i64) (B2 .i64))) (dD (Gt rB inT) (dD Dq (dD (gM (Gt (rI .i64) (B2 .i64))) (dD (gM PM) (dD (gM Dq) (dD (gM PL) (Gt (rI .i64) (B2 .i64))))))))))))) (fun x=>(x.Op,x.A,x.B,x.Table,x.P',x.Left,x.J',x.Q',x.M',x.I',x.R',x.U'))
def X6:Rc Gk aq Gy:=zA (kM qv (kM qv (kM qv (kM qv (kM (z8 qv) (kM qv (kM Lo (kM (z8 qv) (kM (z8 acl) (kM (z8 Lo) (kM (z8 ack) qv)))))))))))
def aix{hb:Type}(enc:TypeId×Value->hb)(W:World):Ei enc aP W 52 Gk:=rZ (l:=[(3,0),(3,1),(3,2),(3,3),(44,4),(4,5),(47,6),(44,7),(48,8),(49,9),(50,10),(3,11)]) (by kernel_rfl) (by kernel_rfl) (fun y=>⟨⟨y.1,y.2.1,y.2.2.1,y.2.2.2.1,y.2.2.2.2.1,y.2.2.2.2.2.1,y.2.2.2.2.2.2.1,y.2.2.2.2.2.2.2.1,y.2.2.2.2.2.2.2.2.1,y.2.2.2.2.2.2.2.2.2.1,y.2.2.2.2.2.2.2.2.2.2.1,y.2.2.2.2.2.2.2.2.2.2.2⟩,rfl⟩) (jn (Hn enc W) rfl (jn (Hn enc W) rfl (jn (Hn enc W) rfl (jn (Hn enc W) rfl (jn (afc enc W) rfl (jn (aiC enc W) rfl (jn (Zn enc W) rfl (jn (afc enc W) rfl (jn (aiA enc W) rfl (jn (aiz enc W) rfl (jn (aiy enc W) rfl (xa (Hn enc W)))))))))))))
def aiH{hb:Type}(enc:TypeId×Value->hb)(W:World):Ei enc aP W 22 (gM Gk):=s0 oo (by kernel_rfl) rfl (aix enc W)
def Sh(x:aZ):Prop:=(Q9 Gy) x.j'
def RS:Rp aZ:=sr (gM Gk) (fun x=>(x.j'))
def X5:Rc RS aX Sh:=zA (z8 X6)
def aiG{hb:Type}(enc:TypeId×Value->hb)(W:World):Ei enc aP W 24 RS:=rZ (l:=[(22,0)]) (by kernel_rfl) (by kernel_rfl) (fun y=>⟨⟨y⟩,rfl⟩) (xa (aiH enc W))
def aiu{hb:Type}(enc:TypeId×Value->hb)(W:World):Ei enc aP W 68 (gM yQ):=s0 oT (by kernel_rfl) rfl (afb enc W)
def aiD{hb:Type}(enc:TypeId×Value->hb)(W:World):Ei enc aP W 31 (gM (gM yQ)):=s0 nP (by kernel_rfl) rfl (aiu enc W)
def aiF{hb:Type}(enc:TypeId×Value->hb)(W:World):Ei enc aP W 25 (gM (gM (gM yQ))):=s0 rN (by kernel_rfl) rfl (aiD enc W)
def PW(x:da):Prop:=(Q9 (Q9 (Q9 AH))) x.Tables
def VR:Rp da:=sr (gM (gM (gM yQ))) (fun x=>(x.Tables))
def ZA:Rc VR ko PW:=zA (z8 (z8 (z8 Ok)))
def aiE{hb:Type}(enc:TypeId×Value->hb)(W:World):Ei enc aP W 27 VR:=rZ (l:=[(25,0)]) (by kernel_rfl) (by kernel_rfl) (fun y=>⟨⟨y⟩,rfl⟩) (xa (aiF enc W))
def iE{a b:Bool}(h:a=true)(k:b=true):(a&&b)=true:=by rw [h,k];rfl
def Du:(laidOutB Tryz.pinned.checked.prog)=true/\(mapsRowed Tryz.pinned.checked.prog)=true/\((Tryz.pinned.checked.prog.stops==[]))=true/\((Tryz.pinned.checked.prog.stopKnobs==[]))=true/\(Tryz.pinned.checked.prog.stopsHeard)=true/\(Tryz.pinned.checked.prog.mayEnter)=true:=by
 have h:((laidOutB Tryz.pinned.checked.prog)&&((mapsRowed Tryz.pinned.checked.prog)&&(((Tryz.pinned.checked.prog.stops==[]))&&(((Tryz.pinned.checked.prog.stopKnobs==[]))&&((Tryz.pinned.checked.prog.stopsHeard)&&((Tryz.pinned.checked.prog.mayEnter)))))))=true:=by kernel_rfl
 simpa only [iX] using h
def aco:Tryz.pinned.checked.prog.mainIs=some (true,("ce64e7288fbfe5bf8a3513ab74f55f0068a4d87aee29e54981cadc758363339a" :String).toList):=by kernel_rfl
def ZK:false=Tryz.pinned.checked.prog.looks []:=by kernel_rfl
def Sr:List (String×DataW Unit):=[("bowsprit/value.truths",Rows.laid_bowsprit_value_truths)]
def alA:Tryz.prog.globalNamed "bowsprit/value.truths" =some 0:=by kernel_rfl
def aly:(Tryz.prog.globals[0]?).map (·.type)=some 282:=by kernel_rfl
set_option maxRecDepth 100000 in
def alz(W:World):ToC aP W false 282 Rows.laid_bowsprit_value_truths [.int .i64 (1),.int .i64 (0),.int .u64 (0),.string ⟨([]:List UInt8).toArray⟩,.int .i64 (0),.int .i64 (0),.int .u64 (0),.string ⟨([]:List UInt8).toArray⟩,.int .i64 (1),.int .i64 (1),.int .u64 (0),.string ⟨([]:List UInt8).toArray⟩]:=ab9 Tryz.underlying282 (by kernel_rfl) (by rw [show Tryz.prog.cellsOf 72=4 from by kernel_rfl];exact(show FC _ _ _ 0 [(72,0),(72,4),(72,8)] _ _ from qH (EY (l:=[(3,0),(2,1),(70,2),(9,3)]) (by kernel_rfl) (by kernel_rfl) (qH (xM me (by kernel_rfl)) rfl (qH (xM FO (by kernel_rfl)) rfl (qH (xM FQ (by kernel_rfl)) rfl (qH (PA Eo (by kernel_rfl)) rfl (Qt)))))) rfl (qH (EY (l:=[(3,0),(2,1),(70,2),(9,3)]) (by kernel_rfl) (by kernel_rfl) (qH (xM me (by kernel_rfl)) rfl (qH (xM FO (by kernel_rfl)) rfl (qH (xM FQ (by kernel_rfl)) rfl (qH (PA Eo (by kernel_rfl)) rfl (Qt)))))) rfl (qH (EY (l:=[(3,0),(2,1),(70,2),(9,3)]) (by kernel_rfl) (by kernel_rfl) (qH (xM me (by kernel_rfl)) rfl (qH (xM FO (by kernel_rfl)) rfl (qH (xM FQ (by kernel_rfl)) rfl (qH (PA Eo (by kernel_rfl)) rfl (Qt)))))) rfl (Qt)))))
set_option maxRecDepth 100000 in
def aa9(os:Os)(args:Array Value):laidMetH aP Sr ((World.doorLaid aP 400 os).forCall (fun _ _=>0) ⟨#[],args,[]⟩).memory:=
 laidMetH_of_parts3 (fuel:=8) (laidMet_of_run' 8 (by kernel_rfl) (by kernel_rfl)) (by kernel_rfl) (by kernel_rfl)
def Yu{W:World}(h:laidMetH aP Sr W): ∀p∈glob,∃c aj fr,W.heap[p.1]? =some (.cells c aj fr)/\c.toList.take p.2.length=p.2:=by
 rw [MakeChecks.laidMetH_plain _ _ _ (by kernel_rfl)]at h;intro p hp;simp only [glob,iW,List.not_mem_nil,or_false]at hp;rcases hp with rfl
 ·exact Qj h (md ..) alA aly (alz W)
