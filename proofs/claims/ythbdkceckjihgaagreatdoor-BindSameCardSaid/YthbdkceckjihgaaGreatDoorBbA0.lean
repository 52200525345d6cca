/- du of this claim: A0. -/
import Derived.Test.YthbdkceckjihgaaGreatDoorRows
import Derived.Test.YthbdkceckjihgaaGreatDoorBbT
import Derived.Test.YthbdkceckjihgaaGreatDoorBbV3
import Derived.Lay
import Derived.Lib.LaidU8T
import Derived.PinnedBridge
import Derived.Test.YthbdkceckjihgaaGreatDoorBbV4
import Derived.ProofKit
import Derived.SevenTiedAt
set_option linter.all false
namespace Go.Proofs.YthbdkceckjihgaaGreatDoor
open Go Go.Lib Go.Shelf Go.Proofs Go.ChangeShapes Go.WideShapes Go.ChangeAt Go.RowKit

def X7:ownKnob Tryz.prog.godebug=none:=by kernel_rfl
def Vb:laidOutB aZ=true:=by kernel_rfl
def Gc{tD:Type}(enc:TypeId×Value->tD)(W:World):yQ enc aZ W 9 (zx rS FF):=Sj gx (by kernel_rfl)
def KR{tD:Type}(enc:TypeId×Value->tD)(W:World):yQ enc aZ W 3 (zx (rI .i64) (Fh .i64)):=Gb yW (by kernel_rfl)
def IW(x:cd):Prop:=FF x.Name/\(Fh .i64) x.Kind
def Ad:Rp cd:=kp (ck (zx rS FF) (zx (rI .i64) (Fh .i64))) (fun x=>(x.Name,x.Kind))
def Nk:HE Ad cZ IW:=pI (fD kZ kZ)
def XW{tD:Type}(enc:TypeId×Value->tD)(W:World):yQ enc aZ W 113 Ad:=kb (l:=[(9,0),(3,1)]) (by kernel_rfl) (by kernel_rfl) (fun y=>⟨⟨y.1,y.2⟩,rfl⟩) (eF (Gc enc W) rfl (ni (KR enc W)))
def XY{tD:Type}(enc:TypeId×Value->tD)(W:World):yQ enc aZ W 108 (eO Ad):=pH p8 (by kernel_rfl) rfl (XW enc W)
def ZJ{tD:Type}(enc:TypeId×Value->tD)(W:World):yQ enc aZ W 35 (eO (zx (rI .i64) (Fh .i64))):=pH fH (by kernel_rfl) rfl (KR enc W)
def LA(x:ce):Prop:=FF x.Name/\(UD IW) x.Columns/\(UD (Fh .i64)) x.Keys
def CJ:Rp ce:=kp (ck (zx rS FF) (ck (eO Ad) (eO (zx (rI .i64) (Fh .i64))))) (fun x=>(x.Name,x.Columns,x.Keys))
def QV:HE CJ cG LA:=pI (fD kZ (fD (xQ Nk) (xQ kZ)))
def XX{tD:Type}(enc:TypeId×Value->tD)(W:World):yQ enc aZ W 110 CJ:=kb (l:=[(9,0),(108,1),(35,2)]) (by kernel_rfl) (by kernel_rfl) (fun y=>⟨⟨y.1,y.2.1,y.2.2⟩,rfl⟩) (eF (Gc enc W) rfl (eF (XY enc W) rfl (ni (ZJ enc W))))
def ZN{tD:Type}(enc:TypeId×Value->tD)(W:World):yQ enc aZ W 22 (eO CJ):=pH sF (by kernel_rfl) rfl (XX enc W)
def Nx(x:aR):Prop:=(UD LA) x.Tables
def Gz:Rp aR:=kp (eO CJ) (fun x=>(x.Tables))
def Lo:HE Gz bK Nx:=pI (xQ QV)
def ZM{tD:Type}(enc:TypeId×Value->tD)(W:World):yQ enc aZ W 24 Gz:=kb (l:=[(22,0)]) (by kernel_rfl) (by kernel_rfl) (fun y=>⟨⟨y⟩,rfl⟩) (ni (ZN enc W))
def UR{tD:Type}(enc:TypeId×Value->tD)(W:World):yQ enc aZ W 4 (zx rB UC):=QD FS (by kernel_rfl)
def abS{tD:Type}(enc:TypeId×Value->tD)(W:World):yQ enc aZ W 2 (zx (rI .i64) (Fh .i64)):=Gb Tryz.underlying2 (by kernel_rfl)
def X0{tD:Type}(enc:TypeId×Value->tD)(W:World):yQ enc aZ W 102 (zx (rI .u64) (Fh .u64)):=Gb Tryz.underlying102 (by kernel_rfl)
def Lz(x:cJ):Prop:=(Fh .i64) x.Kind/\(Fh .i64) x.N/\(Fh .u64) x.U/\FF x.S
def Gy:Rp cJ:=kp (ck (zx (rI .i64) (Fh .i64)) (ck (zx (rI .i64) (Fh .i64)) (ck (zx (rI .u64) (Fh .u64)) (zx rS FF)))) (fun x=>(x.Kind,x.N,x.U,x.S))
def QU:HE Gy ei Lz:=pI (fD kZ (fD kZ (fD kZ kZ)))
def XZ{tD:Type}(enc:TypeId×Value->tD)(W:World):yQ enc aZ W 104 Gy:=kb (l:=[(3,0),(2,1),(102,2),(9,3)]) (by kernel_rfl) (by kernel_rfl) (fun y=>⟨⟨y.1,y.2.1,y.2.2.1,y.2.2.2⟩,rfl⟩) (eF (KR enc W) rfl (eF (abS enc W) rfl (eF (X0 enc W) rfl (ni (Gc enc W)))))
def Ph(x:dl):Prop:=(Fh .i64) x.Tag/\(Fh .i64) x.L/\(Fh .i64) x.R/\Lz x.Value/\FF x.Table/\FF x.Name
def Fw:Rp dl:=kp (ck (zx (rI .i64) (Fh .i64)) (ck (zx (rI .i64) (Fh .i64)) (ck (zx (rI .i64) (Fh .i64)) (ck Gy (ck (zx rS FF) (zx rS FF)))))) (fun x=>(x.Tag,x.L,x.R,x.Value,x.Table,x.Name))
def SI:HE Fw dk Ph:=pI (fD kZ (fD kZ (fD kZ (fD QU (fD kZ kZ)))))
def XV{tD:Type}(enc:TypeId×Value->tD)(W:World):yQ enc aZ W 162 Fw:=kb (l:=[(3,0),(3,1),(3,2),(104,3),(9,7),(9,8)]) (by kernel_rfl) (by kernel_rfl) (fun y=>⟨⟨y.1,y.2.1,y.2.2.1,y.2.2.2.1,y.2.2.2.2.1,y.2.2.2.2.2⟩,rfl⟩) (eF (KR enc W) rfl (eF (KR enc W) rfl (eF (KR enc W) rfl (eF (XZ enc W) rfl (eF (Gc enc W) rfl (ni (Gc enc W)))))))
def ZG{tD:Type}(enc:TypeId×Value->tD)(W:World):yQ enc aZ W 50 (eO Fw):=pH oZ (by kernel_rfl) rfl (XV enc W)
def CT(x:dj):Prop:=(UD Ph) x.Nodes
def Aa:Rp dj:=kp (eO Fw) (fun x=>(x.Nodes))
def CK:HE Aa bI CT:=pI (xQ SI)
def OT{tD:Type}(enc:TypeId×Value->tD)(W:World):yQ enc aZ W 52 Aa:=kb (l:=[(50,0)]) (by kernel_rfl) (by kernel_rfl) (fun y=>⟨⟨y⟩,rfl⟩) (ni (ZG enc W))
def Pk(x:fQ):Prop:=CT x.Tree/\FF x.As
def Fz:Rp fQ:=kp (ck Aa (zx rS FF)) (fun x=>(x.Tree,x.As))
def SL:HE Fz d9 Pk:=pI (fD CK kZ)
def ZB{tD:Type}(enc:TypeId×Value->tD)(W:World):yQ enc aZ W 88 Fz:=kb (l:=[(52,0),(9,1)]) (by kernel_rfl) (by kernel_rfl) (fun y=>⟨⟨y.1,y.2⟩,rfl⟩) (eF (OT enc W) rfl (ni (Gc enc W)))
def ZI{tD:Type}(enc:TypeId×Value->tD)(W:World):yQ enc aZ W 46 (eO Fz):=pH rs (by kernel_rfl) rfl (ZB enc W)
def DX(x:ef):Prop:=FF x.Table/\FF x.As
def Ab:Rp ef:=kp (ck (zx rS FF) (zx rS FF)) (fun x=>(x.Table,x.As))
def GD:HE Ab bg DX:=pI (fD kZ kZ)
def WT{tD:Type}(enc:TypeId×Value->tD)(W:World):yQ enc aZ W 48 Ab:=kb (l:=[(9,0),(9,1)]) (by kernel_rfl) (by kernel_rfl) (fun y=>⟨⟨y.1,y.2⟩,rfl⟩) (eF (Gc enc W) rfl (ni (Gc enc W)))
def Pj(x:nJ):Prop:=UC x.Left/\DX x.Source/\CT x.On
def Fy:Rp nJ:=kp (ck (zx rB UC) (ck Ab Aa)) (fun x=>(x.Left,x.Source,x.On))
def SK:HE Fy fU Pj:=pI (fD kZ (fD GD CK))
def ZC{tD:Type}(enc:TypeId×Value->tD)(W:World):yQ enc aZ W 86 Fy:=kb (l:=[(4,0),(48,1),(52,3)]) (by kernel_rfl) (by kernel_rfl) (fun y=>⟨⟨y.1,y.2.1,y.2.2⟩,rfl⟩) (eF (UR enc W) rfl (eF (WT enc W) rfl (ni (OT enc W))))
def ZH{tD:Type}(enc:TypeId×Value->tD)(W:World):yQ enc aZ W 49 (eO Fy):=pH yV (by kernel_rfl) rfl (ZC enc W)
def Pi(x:km):Prop:=FF x.Table/\FF x.Name
def Fx:Rp km:=kp (ck (zx rS FF) (zx rS FF)) (fun x=>(x.Table,x.Name))
def SJ:HE Fx fI Pi:=pI (fD kZ kZ)
def ZA{tD:Type}(enc:TypeId×Value->tD)(W:World):yQ enc aZ W 91 Fx:=kb (l:=[(9,0),(9,1)]) (by kernel_rfl) (by kernel_rfl) (fun y=>⟨⟨y.1,y.2⟩,rfl⟩) (eF (Gc enc W) rfl (ni (Gc enc W)))
def ZF{tD:Type}(enc:TypeId×Value->tD)(W:World):yQ enc aZ W 53 (eO Fx):=pH y8 (by kernel_rfl) rfl (ZA enc W)
def IV(x:aQ):Prop:=UC x.Distinct/\UC x.Star/\(UD Pk) x.Items/\DX x.From/\(UD Pj) x.Joins/\CT x.Where/\CT x.Having/\(UD Pi) x.Group
def Ac:Rp aQ:=kp (ck (zx rB UC) (ck (zx rB UC) (ck (eO Fz) (ck Ab (ck (eO Fy) (ck Aa (ck Aa (eO Fx)))))))) (fun x=>(x.Distinct,x.Star,x.Items,x.From,x.Joins,x.Where,x.Having,x.Group))
def Nj:HE Ac bh IV:=pI (fD kZ (fD kZ (fD (xQ SL) (fD GD (fD (xQ SK) (fD CK (fD CK (xQ SJ))))))))
def ZE{tD:Type}(enc:TypeId×Value->tD)(W:World):yQ enc aZ W 55 Ac:=kb (l:=[(4,0),(4,1),(46,2),(48,3),(49,5),(52,6),(52,7),(53,8)]) (by kernel_rfl) (by kernel_rfl) (fun y=>⟨⟨y.1,y.2.1,y.2.2.1,y.2.2.2.1,y.2.2.2.2.1,y.2.2.2.2.2.1,y.2.2.2.2.2.2.1,y.2.2.2.2.2.2.2⟩,rfl⟩) (eF (UR enc W) rfl (eF (UR enc W) rfl (eF (ZI enc W) rfl (eF (WT enc W) rfl (eF (ZH enc W) rfl (eF (OT enc W) rfl (eF (OT enc W) rfl (ni (ZF enc W)))))))))
def ZL{tD:Type}(enc:TypeId×Value->tD)(W:World):yQ enc aZ W 28 (eO Ac):=pH wL (by kernel_rfl) rfl (ZE enc W)
def SU(x:tf):Prop:=FF x.Name/\(Fh .i64) x.Number/\UC x.Desc
def JI:Rp tf:=kp (ck (zx rS FF) (ck (zx (rI .i64) (Fh .i64)) (zx rB UC))) (fun x=>(x.Name,x.Number,x.Desc))
def U3:HE JI j0 SU:=pI (fD kZ (fD kZ kZ))
def ZD{tD:Type}(enc:TypeId×Value->tD)(W:World):yQ enc aZ W 57 JI:=kb (l:=[(9,0),(3,1),(4,2)]) (by kernel_rfl) (by kernel_rfl) (fun y=>⟨⟨y.1,y.2.1,y.2.2⟩,rfl⟩) (eF (Gc enc W) rfl (eF (KR enc W) rfl (ni (UR enc W))))
def ZK{tD:Type}(enc:TypeId×Value->tD)(W:World):yQ enc aZ W 29 (eO JI):=pH AH (by kernel_rfl) rfl (ZD enc W)
def ST(x:cu):Prop:=(UD IV) x.Selects/\(UD SU) x.Keys/\(Fh .i64) x.Limit
def Ll:Rp cu:=kp (ck (eO Ac) (ck (eO JI) (zx (rI .i64) (Fh .i64)))) (fun x=>(x.Selects,x.Keys,x.Limit))
def IM:HE Ll cv ST:=pI (fD (xQ Nj) (fD (xQ U3) kZ))
def WU{tD:Type}(enc:TypeId×Value->tD)(W:World):yQ enc aZ W 31 Ll:=kb (l:=[(28,0),(29,1),(3,2)]) (by kernel_rfl) (by kernel_rfl) (fun y=>⟨⟨y.1,y.2.1,y.2.2⟩,rfl⟩) (eF (ZL enc W) rfl (eF (ZK enc W) rfl (ni (KR enc W))))
def f7{a b:Bool}(h:a=true)(k:b=true):(a&&b)=true:=by rw [h,k];rfl
def Ai:(laidOutB Tryz.pinned.checked.prog)=true/\(mapsRowed Tryz.pinned.checked.prog)=true/\((Tryz.pinned.checked.prog.stops==[]))=true/\((Tryz.pinned.checked.prog.stopKnobs==[]))=true/\(Tryz.pinned.checked.prog.stopsHeard)=true/\(Tryz.pinned.checked.prog.mayEnter)=true:=by
 have h:((laidOutB Tryz.pinned.checked.prog)&&((mapsRowed Tryz.pinned.checked.prog)&&(((Tryz.pinned.checked.prog.stops==[]))&&(((Tryz.pinned.checked.prog.stopKnobs==[]))&&((Tryz.pinned.checked.prog.stopsHeard)&&((Tryz.pinned.checked.prog.mayEnter)))))))=true:=by kernel_rfl
 simpa only [jR] using h
def U4:Tryz.pinned.checked.prog.mainIs=some (true,("994ba46e7a82f8141f915d9f3da3b6056a2eae399341bbf3229131cb61b0b052" :String).toList):=by kernel_rfl
def SM:false=Tryz.pinned.checked.prog.looks []:=by kernel_rfl
def CW:List (String×DataW Unit):=[("unicode/utf8.acceptRanges",Rows.laid_unicode_utf8_acceptRanges),("bowsprit/lex.words",Rows.laid_bowsprit_lex_words),("bowsprit/catalog.kinds",Rows.laid_bowsprit_catalog_kinds),("unicode.CaseRanges",Rows.laid_unicode_CaseRanges),("unicode/utf8.first",Rows.laid_unicode_utf8_first)]
def ab0:Tryz.prog.globalNamed "bowsprit/lex.words" =some 1:=by kernel_rfl
def abW:(Tryz.prog.globals[1]?).map (·.type)=some 228:=by kernel_rfl
set_option maxRecDepth 100000 in
def abY(W:World):XD aZ W false 228 Rows.laid_bowsprit_lex_words [.string ⟨([83,69,76,69,67,84]:List UInt8).toArray⟩,.string ⟨([68,73,83,84,73,78,67,84]:List UInt8).toArray⟩,.string ⟨([70,82,79,77]:List UInt8).toArray⟩,.string ⟨([76,69,70,84]:List UInt8).toArray⟩,.string ⟨([74,79,73,78]:List UInt8).toArray⟩,.string ⟨([79,78]:List UInt8).toArray⟩,.string ⟨([87,72,69,82,69]:List UInt8).toArray⟩,.string ⟨([71,82,79,85,80]:List UInt8).toArray⟩,.string ⟨([66,89]:List UInt8).toArray⟩,.string ⟨([72,65,86,73,78,71]:List UInt8).toArray⟩,.string ⟨([85,78,73,79,78]:List UInt8).toArray⟩,.string ⟨([65,76,76]:List UInt8).toArray⟩,.string ⟨([79,82,68,69,82]:List UInt8).toArray⟩,.string ⟨([76,73,77,73,84]:List UInt8).toArray⟩,.string ⟨([65,83,67]:List UInt8).toArray⟩,.string ⟨([68,69,83,67]:List UInt8).toArray⟩,.string ⟨([65,83]:List UInt8).toArray⟩,.string ⟨([65,78,68]:List UInt8).toArray⟩,.string ⟨([79,82]:List UInt8).toArray⟩,.string ⟨([78,79,84]:List UInt8).toArray⟩,.string ⟨([73,83]:List UInt8).toArray⟩,.string ⟨([78,85,76,76]:List UInt8).toArray⟩,.string ⟨([84,82,85,69]:List UInt8).toArray⟩,.string ⟨([70,65,76,83,69]:List UInt8).toArray⟩,.string ⟨([67,79,85,78,84]:List UInt8).toArray⟩,.string ⟨([83,85,77]:List UInt8).toArray⟩,.string ⟨([77,73,78]:List UInt8).toArray⟩,.string ⟨([77,65,88]:List UInt8).toArray⟩]:=OU Tryz.underlying228 (by kernel_rfl) (by rw [show Tryz.prog.cellsOf 9=1 from by kernel_rfl];exact(show FC _ _ _ 0 [(9,0),(9,1),(9,2),(9,3),(9,4),(9,5),(9,6),(9,7),(9,8),(9,9),(9,10),(9,11),(9,12),(9,13),(9,14),(9,15),(9,16),(9,17),(9,18),(9,19),(9,20),(9,21),(9,22),(9,23),(9,24),(9,25),(9,26),(9,27)] _ _ from eM (fT gx (by kernel_rfl)) rfl (eM (fT gx (by kernel_rfl)) rfl (eM (fT gx (by kernel_rfl)) rfl (eM (fT gx (by kernel_rfl)) rfl (eM (fT gx (by kernel_rfl)) rfl (eM (fT gx (by kernel_rfl)) rfl (eM (fT gx (by kernel_rfl)) rfl (eM (fT gx (by kernel_rfl)) rfl (eM (fT gx (by kernel_rfl)) rfl (eM (fT gx (by kernel_rfl)) rfl (eM (fT gx (by kernel_rfl)) rfl (eM (fT gx (by kernel_rfl)) rfl (eM (fT gx (by kernel_rfl)) rfl (eM (fT gx (by kernel_rfl)) rfl (eM (fT gx (by kernel_rfl)) rfl (eM (fT gx (by kernel_rfl)) rfl (eM (fT gx (by kernel_rfl)) rfl (eM (fT gx (by kernel_rfl)) rfl (eM (fT gx (by kernel_rfl)) rfl (eM (fT gx (by kernel_rfl)) rfl (eM (fT gx (by kernel_rfl)) rfl (eM (fT gx (by kernel_rfl)) rfl (eM (fT gx (by kernel_rfl)) rfl (eM (fT gx (by kernel_rfl)) rfl (eM (fT gx (by kernel_rfl)) rfl (eM (fT gx (by kernel_rfl)) rfl (eM (fT gx (by kernel_rfl)) rfl (eM (fT gx (by kernel_rfl)) rfl (Hg))))))))))))))))))))))))))))))
def ab1:Tryz.prog.globalNamed "bowsprit/catalog.kinds" =some 0:=by kernel_rfl
def abX:(Tryz.prog.globals[0]?).map (·.type)=some 227:=by kernel_rfl
set_option maxRecDepth 100000 in
def abZ(W:World):XD aZ W false 227 Rows.laid_bowsprit_catalog_kinds [.string ⟨([98,111,111,108]:List UInt8).toArray⟩,.int .i64 (1),.string ⟨([105,110,116]:List UInt8).toArray⟩,.int .i64 (2),.string ⟨([116,101,120,116]:List UInt8).toArray⟩,.int .i64 (3)]:=OU Tryz.underlying227 (by kernel_rfl) (by rw [show Tryz.prog.cellsOf 226=2 from by kernel_rfl];exact(show FC _ _ _ 0 [(226,0),(226,2),(226,4)] _ _ from eM (Bv (l:=[(9,0),(3,1)]) (by kernel_rfl) (by kernel_rfl) (eM (fT gx (by kernel_rfl)) rfl (eM (JD yW (by kernel_rfl)) rfl (Hg)))) rfl (eM (Bv (l:=[(9,0),(3,1)]) (by kernel_rfl) (by kernel_rfl) (eM (fT gx (by kernel_rfl)) rfl (eM (JD yW (by kernel_rfl)) rfl (Hg)))) rfl (eM (Bv (l:=[(9,0),(3,1)]) (by kernel_rfl) (by kernel_rfl) (eM (fT gx (by kernel_rfl)) rfl (eM (JD yW (by kernel_rfl)) rfl (Hg)))) rfl (Hg)))))
set_option maxRecDepth 100000 in
def TN(os:Os)(args:Array Value):laidMetH aZ CW ((World.laidAll aZ os CW).forCall (fun _ _=>0) ⟨#[],args,[]⟩).memory:=by
 rw [MakeChecks.laidMetH_plain _ _ _ (by kernel_rfl)]
 exact laidMet_laidAll _ (by kernel_rfl) (by kernel_rfl)
def Rq{W:World}(h:laidMetH aZ CW W): ∀p∈glob,∃c T fr,W.heap[p.1]? =some (.cells c T fr)/\c.toList.take p.2.length=p.2:=by
 rw [MakeChecks.laidMetH_plain _ _ _ (by kernel_rfl)]at h
 intro p hp
 simp only [glob,gw,List.not_mem_nil,or_false]at hp
 rcases hp with rfl|rfl
 ·exact C2 h (oD _ (oD _ (oa ..))) ab1 abX (abZ W)
 ·exact C2 h (oD _ (oa ..)) ab0 abW (abY W)
def abM:Go.Proofs.CaseExtra aZ oY:=⟨by kernel_rfl,by kernel_rfl,by kernel_rfl,by kernel_rfl,by kernel_rfl,by kernel_rfl⟩
def u8X:Go.Proofs.U8Extra aZ oY:=⟨by kernel_rfl,by kernel_rfl,by kernel_rfl,by kernel_rfl,by kernel_rfl,by kernel_rfl,by kernel_rfl⟩
def RO:(Rows.laid_unicode_utf8_acceptRanges:DataW Unit)=acceptData:=by kernel_rfl
def Sq{W:World}(h:laidMetH aZ CW W):QE W:=by
 rw [MakeChecks.laidMetH_plain _ _ _ (by kernel_rfl)]at h
 have V:VarReads aZ W "unicode.CaseRanges" caseData:=Pinned.caseRanges_eq▸Lib.laidMet.reads h (oD _ (oD _ (oD _ (oa ..))))
 have Z:VarReads aZ W "unicode/utf8.first" firstData:=Pinned.utf8First_eq▸Lib.laidMet.reads h (oD _ (oD _ (oD _ (oD _ (oa ..)))))
 have h3:VarReads aZ W "unicode/utf8.acceptRanges" acceptData:=RO▸Lib.laidMet.reads h (oa ..)
 exact⟨caseVar_of_reads {wX with} (by kernel_rfl) abM V,utf8Tabs_of_readsT {wX with} u8X Z h3⟩
def Sp{W:World}(h:laidMetH aZ CW W): ∀w' :World,(∀(b:Nat) (o:Obj),W.heap[b]? =some o-> ∃o',w'.heap[b]? =some o' /\HT o o')->QE w' :=fun _ hle=>⟨Mx hle (Sq h).1,Ku hle (Sq h).2⟩
end Go.Proofs.YthbdkceckjihgaaGreatDoor

