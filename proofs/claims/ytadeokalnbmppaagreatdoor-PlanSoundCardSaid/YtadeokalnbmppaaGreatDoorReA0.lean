import Derived.Test.YtadeokalnbmppaaGreatDoorRows
import Derived.Test.YtadeokalnbmppaaGreatDoorReT
import Derived.Test.YtadeokalnbmppaaGreatDoorReV4
import Derived.Lay
import Derived.Lib.LaidU8T
import Derived.PinnedBridge
import Derived.ProofKit
import Derived.SevenTiedAt
set_option linter.all false
namespace Go.Proofs.YtadeokalnbmppaaGreatDoor
open Go Go.Lib Go.Shelf Go.Proofs Go.ChangeShapes Go.WideShapes Go.ChangeAt Go.RowKit
def aaD:ownKnob Tryz.prog.godebug=none:=by kernel_rfl
def XE:laidOutB aL=true:=by kernel_rfl
def CX{hg:Type}(enc:TypeId×Value->hg)(W:World):Bl enc aL W 3 (Bz (rI .i64) (yl .i64)):=GW ld (by kernel_rfl)
def UI{hg:Type}(enc:TypeId×Value->hg)(W:World):Bl enc aL W 40 (eW (Bz (rI .i64) (yl .i64))):=sG dI (by kernel_rfl) rfl (CX enc W)
def acB{hg:Type}(enc:TypeId×Value->hg)(W:World):Bl enc aL W 4 (Bz rB inT):=SG QU (by kernel_rfl)
def aeR{hg:Type}(enc:TypeId×Value->hg)(W:World):Bl enc aL W 2 (Bz (rI .i64) (yl .i64)):=GW Tryz.underlying2 (by kernel_rfl)
def aaw{hg:Type}(enc:TypeId×Value->hg)(W:World):Bl enc aL W 103 (Bz (rI .u64) (yl .u64)):=GW Tryz.underlying103 (by kernel_rfl)
def aar{hg:Type}(enc:TypeId×Value->hg)(W:World):Bl enc aL W 9 (Bz rS Zs):=UF pB (by kernel_rfl)
def MU(x:dX):Prop:=(yl .i64) x.Kind/\(yl .i64) x.N/\(yl .u64) x.U/\Zs x.S
def He:Rp dX:=nS (cu (Bz (rI .i64) (yl .i64)) (cu (Bz (rI .i64) (yl .i64)) (cu (Bz (rI .u64) (yl .u64)) (Bz rS Zs)))) (fun x=>(x.Kind,x.N,x.U,x.S))
def S3:JW He gL MU:=uD (iS ny (iS ny (iS ny ny)))
def aav{hg:Type}(enc:TypeId×Value->hg)(W:World):Bl enc aL W 105 He:=oF (l:=[(3,0),(2,1),(103,2),(9,3)]) (by kernel_rfl) (by kernel_rfl) (fun y=>⟨⟨y.1,y.2.1,y.2.2.1,y.2.2.2⟩,rfl⟩) (gB (CX enc W) rfl (gB (aeR enc W) rfl (gB (aaw enc W) rfl (rJ (aar enc W)))))
def MY(x:bw):Prop:=(yl .i64) x.Tag/\(yl .i64) x.L/\(yl .i64) x.R/\(yl .i64) x.y_/\MU x.Value
def C8:Rp bw:=nS (cu (Bz (rI .i64) (yl .i64)) (cu (Bz (rI .i64) (yl .i64)) (cu (Bz (rI .i64) (yl .i64)) (cu (Bz (rI .i64) (yl .i64)) He)))) (fun x=>(x.Tag,x.L,x.R,x.y_,x.Value))
def S7:JW C8 bJ MY:=uD (iS ny (iS ny (iS ny (iS ny S3))))
def aau{hg:Type}(enc:TypeId×Value->hg)(W:World):Bl enc aL W 107 C8:=oF (l:=[(3,0),(3,1),(3,2),(3,3),(105,4)]) (by kernel_rfl) (by kernel_rfl) (fun y=>⟨⟨y.1,y.2.1,y.2.2.1,y.2.2.2.1,y.2.2.2.2⟩,rfl⟩) (gB (CX enc W) rfl (gB (CX enc W) rfl (gB (CX enc W) rfl (gB (CX enc W) rfl (rJ (aav enc W))))))
def acA{hg:Type}(enc:TypeId×Value->hg)(W:World):Bl enc aL W 41 (eW C8):=sG oD (by kernel_rfl) rfl (aau enc W)
def Gt(x:bD):Prop:=(inL MY) x.u'
def A2:Rp bD:=nS (eW C8) (fun x=>(x.u'))
def Hg:JW A2 cg Gt:=uD (xF S7)
def UH{hg:Type}(enc:TypeId×Value->hg)(W:World):Bl enc aL W 43 A2:=oF (l:=[(41,0)]) (by kernel_rfl) (by kernel_rfl) (fun y=>⟨⟨y⟩,rfl⟩) (rJ (acA enc W))
def Vh(x:fh):Prop:=(yl .i64) x.Tag/\Gt x.N_
def KB:Rp fh:=nS (cu (Bz (rI .i64) (yl .i64)) A2) (fun x=>(x.Tag,x.N_))
def Xo:JW KB eg Vh:=uD (iS ny Hg)
def acv{hg:Type}(enc:TypeId×Value->hg)(W:World):Bl enc aL W 56 KB:=oF (l:=[(3,0),(43,1)]) (by kernel_rfl) (by kernel_rfl) (fun y=>⟨⟨y.1,y.2⟩,rfl⟩) (gB (CX enc W) rfl (rJ (UH enc W)))
def acz{hg:Type}(enc:TypeId×Value->hg)(W:World):Bl enc aL W 44 (eW KB):=sG oP (by kernel_rfl) rfl (acv enc W)
def acy{hg:Type}(enc:TypeId×Value->hg)(W:World):Bl enc aL W 45 (eW A2):=sG s7 (by kernel_rfl) rfl (UH enc W)
def Vf(x:px):Prop:=(yl .i64) x.y_/\inT x.Desc
def KA:Rp px:=nS (cu (Bz (rI .i64) (yl .i64)) (Bz rB inT)) (fun x=>(x.y_,x.Desc))
def Xn:JW KA kz Vf:=uD (iS ny ny)
def aat{hg:Type}(enc:TypeId×Value->hg)(W:World):Bl enc aL W 139 KA:=oF (l:=[(3,0),(4,1)]) (by kernel_rfl) (by kernel_rfl) (fun y=>⟨⟨y.1,y.2⟩,rfl⟩) (gB (CX enc W) rfl (rJ (acB enc W)))
def acx{hg:Type}(enc:TypeId×Value->hg)(W:World):Bl enc aL W 46 (eW KA):=sG Bt (by kernel_rfl) rfl (aat enc W)
def MX(x:ac):Prop:=(yl .i64) x.Op/\(yl .i64) x.A/\(yl .i64) x.B/\(yl .i64) x.M'/\(inL (yl .i64)) x.U'/\inT x.Left/\Gt x.f_/\(inL (yl .i64)) x.I'/\(inL Vh) x.L'/\(inL Gt) x.N'/\(inL Vf) x.Y'/\(yl .i64) x.Z'
def C7:Rp ac:=nS (cu (Bz (rI .i64) (yl .i64)) (cu (Bz (rI .i64) (yl .i64)) (cu (Bz (rI .i64) (yl .i64)) (cu (Bz (rI .i64) (yl .i64)) (cu (eW (Bz (rI .i64) (yl .i64))) (cu (Bz rB inT) (cu A2 (cu (eW (Bz (rI .i64) (yl .i64))) (cu (eW KB) (cu (eW A2) (cu (eW KA) (Bz (rI .i64) (yl .i64))))))))))))) (fun x=>(x.Op,x.A,x.B,x.M',x.U',x.Left,x.f_,x.I',x.L',x.N',x.Y',x.Z'))
def S6:JW C7 al MX:=uD (iS ny (iS ny (iS ny (iS ny (iS (xF ny) (iS ny (iS Hg (iS (xF ny) (iS (xF Xo) (iS (xF Hg) (iS (xF Xn) ny)))))))))))
def acw{hg:Type}(enc:TypeId×Value->hg)(W:World):Bl enc aL W 48 C7:=oF (l:=[(3,0),(3,1),(3,2),(3,3),(40,4),(4,5),(43,6),(40,7),(44,8),(45,9),(46,10),(3,11)]) (by kernel_rfl) (by kernel_rfl) (fun y=>⟨⟨y.1,y.2.1,y.2.2.1,y.2.2.2.1,y.2.2.2.2.1,y.2.2.2.2.2.1,y.2.2.2.2.2.2.1,y.2.2.2.2.2.2.2.1,y.2.2.2.2.2.2.2.2.1,y.2.2.2.2.2.2.2.2.2.1,y.2.2.2.2.2.2.2.2.2.2.1,y.2.2.2.2.2.2.2.2.2.2.2⟩,rfl⟩) (gB (CX enc W) rfl (gB (CX enc W) rfl (gB (CX enc W) rfl (gB (CX enc W) rfl (gB (UI enc W) rfl (gB (acB enc W) rfl (gB (UH enc W) rfl (gB (UI enc W) rfl (gB (acz enc W) rfl (gB (acy enc W) rfl (gB (acx enc W) rfl (rJ (CX enc W)))))))))))))
def acF{hg:Type}(enc:TypeId×Value->hg)(W:World):Bl enc aL W 22 (eW C7):=sG kw (by kernel_rfl) rfl (acw enc W)
def Vg(x:cQ):Prop:=(inL MX) x.u'
def My:Rp cQ:=nS (eW C7) (fun x=>(x.u'))
def S5:JW My dO Vg:=uD (xF S6)
def acE{hg:Type}(enc:TypeId×Value->hg)(W:World):Bl enc aL W 24 My:=oF (l:=[(22,0)]) (by kernel_rfl) (by kernel_rfl) (fun y=>⟨⟨y⟩,rfl⟩) (rJ (acF enc W))
def Jt(x:cc):Prop:=Zs x.Name/\(yl .i64) x.Kind
def A3:Rp cc:=nS (cu (Bz rS Zs) (Bz (rI .i64) (yl .i64))) (fun x=>(x.Name,x.Kind))
def Pp:JW A3 ev Jt:=uD (iS ny ny)
def acs{hg:Type}(enc:TypeId×Value->hg)(W:World):Bl enc aL W 66 A3:=oF (l:=[(9,0),(3,1)]) (by kernel_rfl) (by kernel_rfl) (fun y=>⟨⟨y.1,y.2⟩,rfl⟩) (gB (aar enc W) rfl (rJ (CX enc W)))
def acu{hg:Type}(enc:TypeId×Value->hg)(W:World):Bl enc aL W 62 (eW A3):=sG yI (by kernel_rfl) rfl (acs enc W)
def MW(x:de):Prop:=Zs x.Name/\(inL Jt) x.b_/\(inL (yl .i64)) x.I'
def C6:Rp de:=nS (cu (Bz rS Zs) (cu (eW A3) (eW (Bz (rI .i64) (yl .i64))))) (fun x=>(x.Name,x.b_,x.I'))
def S4:JW C6 fD MW:=uD (iS ny (iS (xF Pp) (xF ny)))
def act{hg:Type}(enc:TypeId×Value->hg)(W:World):Bl enc aL W 64 C6:=oF (l:=[(9,0),(62,1),(40,2)]) (by kernel_rfl) (by kernel_rfl) (fun y=>⟨⟨y.1,y.2.1,y.2.2⟩,rfl⟩) (gB (aar enc W) rfl (gB (acu enc W) rfl (rJ (UI enc W))))
def acD{hg:Type}(enc:TypeId×Value->hg)(W:World):Bl enc aL W 25 (eW C6):=sG Bs (by kernel_rfl) rfl (act enc W)
def PG(x:bo):Prop:=(inL MW) x.i_
def Hf:Rp bo:=nS (eW C6) (fun x=>(x.i_))
def MA:JW Hf eH PG:=uD (xF S4)
def acC{hg:Type}(enc:TypeId×Value->hg)(W:World):Bl enc aL W 27 Hf:=oF (l:=[(25,0)]) (by kernel_rfl) (by kernel_rfl) (fun y=>⟨⟨y⟩,rfl⟩) (rJ (acD enc W))
def g9{a b:Bool}(h:a=true)(k:b=true):(a&&b)=true:=by rw [h,k];rfl
def A8:(laidOutB Tryz.pinned.checked.prog)=true/\(mapsRowed Tryz.pinned.checked.prog)=true/\((Tryz.pinned.checked.prog.stops==[]))=true/\((Tryz.pinned.checked.prog.stopKnobs==[]))=true/\(Tryz.pinned.checked.prog.stopsHeard)=true/\(Tryz.pinned.checked.prog.mayEnter)=true:=by
 have h:((laidOutB Tryz.pinned.checked.prog)&&((mapsRowed Tryz.pinned.checked.prog)&&(((Tryz.pinned.checked.prog.stops==[]))&&(((Tryz.pinned.checked.prog.stopKnobs==[]))&&((Tryz.pinned.checked.prog.stopsHeard)&&((Tryz.pinned.checked.prog.mayEnter)))))))=true:=by kernel_rfl
 simpa only [jJ] using h
def Xr:Tryz.pinned.checked.prog.mainIs=some (true,("579309bfe8413cd0c0326629d07b214d99b0a551d65843b62987f7107755ccd3" :String).toList):=by kernel_rfl
def U6:false=Tryz.pinned.checked.prog.looks []:=by kernel_rfl
def Dn:List (String×DataW Unit):=[("unicode/utf8.acceptRanges",Rows.laid_unicode_utf8_acceptRanges),("bowsprit/lex.words",Rows.laid_bowsprit_lex_words),("bowsprit/catalog.kinds",Rows.laid_bowsprit_catalog_kinds),("unicode.CaseRanges",Rows.laid_unicode_CaseRanges),("unicode/utf8.first",Rows.laid_unicode_utf8_first)]
def ae3:Tryz.prog.globalNamed "bowsprit/lex.words" =some 1:=by kernel_rfl
def aeZ:(Tryz.prog.globals[1]?).map (·.type)=some 222:=by kernel_rfl
set_option maxRecDepth 100000 in
def ae1(W:World):ZL aL W false 222 Rows.laid_bowsprit_lex_words [.string ⟨([83,69,76,69,67,84]:List UInt8).toArray⟩,.string ⟨([68,73,83,84,73,78,67,84]:List UInt8).toArray⟩,.string ⟨([70,82,79,77]:List UInt8).toArray⟩,.string ⟨([76,69,70,84]:List UInt8).toArray⟩,.string ⟨([74,79,73,78]:List UInt8).toArray⟩,.string ⟨([79,78]:List UInt8).toArray⟩,.string ⟨([87,72,69,82,69]:List UInt8).toArray⟩,.string ⟨([71,82,79,85,80]:List UInt8).toArray⟩,.string ⟨([66,89]:List UInt8).toArray⟩,.string ⟨([72,65,86,73,78,71]:List UInt8).toArray⟩,.string ⟨([85,78,73,79,78]:List UInt8).toArray⟩,.string ⟨([65,76,76]:List UInt8).toArray⟩,.string ⟨([79,82,68,69,82]:List UInt8).toArray⟩,.string ⟨([76,73,77,73,84]:List UInt8).toArray⟩,.string ⟨([65,83,67]:List UInt8).toArray⟩,.string ⟨([68,69,83,67]:List UInt8).toArray⟩,.string ⟨([65,83]:List UInt8).toArray⟩,.string ⟨([65,78,68]:List UInt8).toArray⟩,.string ⟨([79,82]:List UInt8).toArray⟩,.string ⟨([78,79,84]:List UInt8).toArray⟩,.string ⟨([73,83]:List UInt8).toArray⟩,.string ⟨([78,85,76,76]:List UInt8).toArray⟩,.string ⟨([84,82,85,69]:List UInt8).toArray⟩,.string ⟨([70,65,76,83,69]:List UInt8).toArray⟩,.string ⟨([67,79,85,78,84]:List UInt8).toArray⟩,.string ⟨([83,85,77]:List UInt8).toArray⟩,.string ⟨([77,73,78]:List UInt8).toArray⟩,.string ⟨([77,65,88]:List UInt8).toArray⟩]:=Q3 Tryz.underlying222 (by kernel_rfl) (by rw [show Tryz.prog.cellsOf 9=1 from by kernel_rfl];exact(show FC _ _ _ 0 [(9,0),(9,1),(9,2),(9,3),(9,4),(9,5),(9,6),(9,7),(9,8),(9,9),(9,10),(9,11),(9,12),(9,13),(9,14),(9,15),(9,16),(9,17),(9,18),(9,19),(9,20),(9,21),(9,22),(9,23),(9,24),(9,25),(9,26),(9,27)] _ _ from fq (gR pB (by kernel_rfl)) rfl (fq (gR pB (by kernel_rfl)) rfl (fq (gR pB (by kernel_rfl)) rfl (fq (gR pB (by kernel_rfl)) rfl (fq (gR pB (by kernel_rfl)) rfl (fq (gR pB (by kernel_rfl)) rfl (fq (gR pB (by kernel_rfl)) rfl (fq (gR pB (by kernel_rfl)) rfl (fq (gR pB (by kernel_rfl)) rfl (fq (gR pB (by kernel_rfl)) rfl (fq (gR pB (by kernel_rfl)) rfl (fq (gR pB (by kernel_rfl)) rfl (fq (gR pB (by kernel_rfl)) rfl (fq (gR pB (by kernel_rfl)) rfl (fq (gR pB (by kernel_rfl)) rfl (fq (gR pB (by kernel_rfl)) rfl (fq (gR pB (by kernel_rfl)) rfl (fq (gR pB (by kernel_rfl)) rfl (fq (gR pB (by kernel_rfl)) rfl (fq (gR pB (by kernel_rfl)) rfl (fq (gR pB (by kernel_rfl)) rfl (fq (gR pB (by kernel_rfl)) rfl (fq (gR pB (by kernel_rfl)) rfl (fq (gR pB (by kernel_rfl)) rfl (fq (gR pB (by kernel_rfl)) rfl (fq (gR pB (by kernel_rfl)) rfl (fq (gR pB (by kernel_rfl)) rfl (fq (gR pB (by kernel_rfl)) rfl (HP))))))))))))))))))))))))))))))
def ae4:Tryz.prog.globalNamed "bowsprit/catalog.kinds" =some 0:=by kernel_rfl
def ae0:(Tryz.prog.globals[0]?).map (·.type)=some 202:=by kernel_rfl
set_option maxRecDepth 100000 in
def ae2(W:World):ZL aL W false 202 Rows.laid_bowsprit_catalog_kinds [.string ⟨([98,111,111,108]:List UInt8).toArray⟩,.int .i64 (1),.string ⟨([105,110,116]:List UInt8).toArray⟩,.int .i64 (2),.string ⟨([116,101,120,116]:List UInt8).toArray⟩,.int .i64 (3)]:=Q3 Tryz.underlying202 (by kernel_rfl) (by rw [show Tryz.prog.cellsOf 201=2 from by kernel_rfl];exact(show FC _ _ _ 0 [(201,0),(201,2),(201,4)] _ _ from fq (Ca (l:=[(9,0),(3,1)]) (by kernel_rfl) (by kernel_rfl) (fq (gR pB (by kernel_rfl)) rfl (fq (Ki ld (by kernel_rfl)) rfl (HP)))) rfl (fq (Ca (l:=[(9,0),(3,1)]) (by kernel_rfl) (by kernel_rfl) (fq (gR pB (by kernel_rfl)) rfl (fq (Ki ld (by kernel_rfl)) rfl (HP)))) rfl (fq (Ca (l:=[(9,0),(3,1)]) (by kernel_rfl) (by kernel_rfl) (fq (gR pB (by kernel_rfl)) rfl (fq (Ki ld (by kernel_rfl)) rfl (HP)))) rfl (HP)))))
set_option maxRecDepth 100000 in
def Wi(os:Os)(args:Array Value):laidMetH aL Dn ((World.laidAll aL os Dn).forCall (fun _ _=>0) ⟨#[],args,[]⟩).memory:=by
 rw [MakeChecks.laidMetH_plain _ _ _ (by kernel_rfl)];exact laidMet_laidAll _ (by kernel_rfl) (by kernel_rfl)
def TE{W:World}(h:laidMetH aL Dn W): ∀p∈glob,∃c T fr,W.heap[p.1]? =some (.cells c T fr)/\c.toList.take p.2.length=p.2:=by
 rw [MakeChecks.laidMetH_plain _ _ _ (by kernel_rfl)]at h;intro p hp;simp only [glob,iI,List.not_mem_nil,or_false]at hp;rcases hp with rfl|rfl
 ·exact Du h (pA _ (pA _ (pz ..))) ae4 ae0 (ae2 W)
 ·exact Du h (pA _ (pz ..)) ae3 aeZ (ae1 W)
def aeK:Go.Proofs.CaseExtra aL qB:=⟨by kernel_rfl,by kernel_rfl,by kernel_rfl,by kernel_rfl,by kernel_rfl,by kernel_rfl⟩
def u8X:Go.Proofs.U8Extra aL qB:=⟨by kernel_rfl,by kernel_rfl,by kernel_rfl,by kernel_rfl,by kernel_rfl,by kernel_rfl,by kernel_rfl⟩
def T9:(Rows.laid_unicode_utf8_acceptRanges:DataW Unit)=acceptData:=by kernel_rfl
def UP{W:World}(h:laidMetH aL Dn W):SI W:=by
 rw [MakeChecks.laidMetH_plain _ _ _ (by kernel_rfl)]at h;have D:VarReads aL W "unicode.CaseRanges" caseData:=Pinned.caseRanges_eq▸Lib.laidMet.reads h (pA _ (pA _ (pA _ (pz ..))));have V:VarReads aL W "unicode/utf8.first" firstData:=Pinned.utf8First_eq▸Lib.laidMet.reads h (pA _ (pA _ (pA _ (pA _ (pz ..)))));have Z:VarReads aL W "unicode/utf8.acceptRanges" acceptData:=T9▸Lib.laidMet.reads h (pz ..);exact⟨caseVar_of_reads {xQ with} (by kernel_rfl) aeK D,utf8Tabs_of_readsT {xQ with} u8X V Z⟩
def UO{W:World}(h:laidMetH aL Dn W): ∀w' :World,(∀(b:Nat) (o:Obj),W.heap[b]? =some o-> ∃o',w'.heap[b]? =some o' /\Ig o o')->SI w' :=fun _ hle=>⟨Ou hle (UP h).1,LA hle (UP h).2⟩
