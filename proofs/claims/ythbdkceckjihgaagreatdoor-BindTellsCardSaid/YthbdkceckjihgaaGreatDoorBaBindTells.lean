/- cH of this claim: BindTells. -/
import Derived.Test.YthbdkceckjihgaaGreatDoorBaA0
import Derived.Test.YthbdkceckjihgaaGreatDoorBaP22
import Derived.Test.YthbdkceckjihgaaGreatDoorBaB2
import Derived.Test.YthbdkceckjihgaaGreatDoorTie
import Derived.Test.YthbdkceckjihgaaGreatDoorCards
import Derived.SevenTiedAt
set_option linter.all false
namespace Go.Proofs.YthbdkceckjihgaaGreatDoor
open Go Go.ChangeShapes Go.WideShapes Go.ChangeAt Go.RowKit

set_option maxRecDepth 100000 in
def vJ(os:Os)(started:os.Started)(h1:Type)(enc:TypeId×Value->h1):
  ReturnsInHanded {} Tryz.checked os 8 .any (fun w args=>(Rows.bindTellsSpec.pre enc Tryz.prog Tryz.f8 [] false w args/\laidMetH Tryz.prog um w)/\sizedMet enc Tryz.prog Tryz.f8 (OpenSpec.ofChange Rows.bindTellsSpec) false w args)
   (Rows.bindTellsSpec.post enc Tryz.prog Tryz.f8 false true false false):=by
 refine returnsInHanded_of_change_and (C:=Tryz.checked) (X:=fun w _=>laidMetH Tryz.prog um w) (fun _ _ _ hh h=>h.of_heap hh) Lr started (by kernel_rfl) Tryz.func8
  (ChangeSpec.witness_shaped (enc:=enc) (C:=Tryz.checked) (os:=os) (X:=fun w _=>laidMetH Tryz.prog um w) false (World.laidAll Tryz.prog os um) #[.agg #[.slice none 0 0],.slice none 0 0,.agg #[.slice none 0 0,.slice none 0 0,.int .i64 0]] 8 (World.laidAll_os _ _ _) (World.shaped_of_ZipB (by kernel_rfl) (by kernel_rfl)) (by kernel_rfl) (by kernel_rfl) (by kernel_rfl) (H7 os _)) ?_
 intro W base args ds gs before hval0 hW hcnd _ hL _
 have hval: ∀(j:Nat) t v,Tryz.f8.params[j]? =some t->args[j]? =some v->Value.okWide Tryz.prog W .any base t v:=hval0
 have hW' :=hW
 obtain⟨p,q,hA0,hV,hbf,hfz,hnd⟩:=hW
 have hA:DataW.TrodAll enc Tryz.prog W 0 (fun _=>true) true Tryz.f8.params.toList args.toList ds p:=hA0
 have hgs:gs=[]:=by
  cases gs with
  |nil=>rfl
  |cons g gs=>exact hV.elim
 rw [Tryz.params8]at hA hval
 obtain⟨v0,v1,v2,d0,d1,d2,p0,p1,p2,hargs,hds,hps,h0,H,J⟩:=trodAll_three hA
 obtain⟨a0,ha0,ho0⟩:=Fi (MP enc W) BV rfl h0 (uJ Tryz.underlying24 (hval 0 24 v0 rfl (by rw [hargs];rfl)))
 obtain⟨a1,ha1,ho1⟩:=Kj (Kv enc W) (oY fI) rfl H (Cm Tryz.underlying35 (hval 1 35 v1 rfl (by rw [hargs];rfl)))
 obtain⟨a2,ha2,ho2⟩:=Fi (MM enc W) FY rfl J (uJ Tryz.underlying31 (hval 2 31 v2 rfl (by rw [hargs];rfl)))
 have hcall:=Nv a0 a1 a2 (ym a0 a1 a2) W (yS W) [v0,v1,v2] (Lp W (Ga hL) (G4 hL)) ⟨ha0,ha1,ha2,trivial⟩
 have hargs' :args=[v0,v1,v2].toArray:=hargs
 rw [<-hargs']at hcall
 refine hcall.mono fun e W' ⟨v,S',he,hext,_,hv⟩=>⟨v,he,?_⟩
 rw [fZ.1 hv]
 exact Ht (tb:=4) I5 (by rw [Tryz.params8];decide+kernel) rfl rfl Tryz.underlying4 hW' (by rw [hgs,hds];rfl) (Bf hext)
def qo:Tryz.pinned.checked.prog.funcNamed Rows.bindTellsRow.func=some 8:=by kernel_rfl
def yo:false=Rows.bindTellsRow.goesBy Tryz.pinned.checked.prog:=by kernel_rfl
def eA:(Rows.bindTellsRow.wf (OpenSpec.ofChange Rows.bindTellsSpec))=true/\(Tryz.f8.params.all (fun t=>Tryz.pinned.checked.prog.readableRec t))=true/\(namedTie Tryz.pinned.checked.prog Rows.bindTellsRow.named Rows.bindTellsSpec.vars)=true/\((Rows.bindTellsRow.stops==[]))=true/\((Rows.bindTellsRow.knobs==[]))=true/\((Rows.bindTellsRow.maps==(Tryz.f8.params.toList++Rows.bindTellsSpec.plain.varTypes Tryz.pinned.checked.prog).any (fun t=>Tryz.pinned.checked.prog.mapsRec t)))=true/\((Rows.bindTellsRow.ifaces==(Tryz.f8.params.toList++Rows.bindTellsSpec.plain.varTypes Tryz.pinned.checked.prog).any (fun t=>Tryz.pinned.checked.prog.ifacesRec t)))=true/\((Rows.bindTellsRow.mapsOut==Tryz.pinned.checked.prog.mapsAmong Tryz.f8.resultTypes.toList))=true/\((Rows.bindTellsRow.loops==(Tryz.f8.params.toList++Rows.bindTellsSpec.plain.varTypes Tryz.pinned.checked.prog).any (fun t=>Tryz.pinned.checked.prog.loopsFrom t)))=true/\((Rows.bindTellsRow.wideKeys==(Tryz.f8.params.toList++Rows.bindTellsSpec.plain.varTypes Tryz.pinned.checked.prog++Tryz.f8.resultTypes.toList).any (fun t=>Tryz.pinned.checked.prog.wideKeysFrom t)))=true/\(Rows.bindTellsSpec.vars.all (fun n=>Tryz.pinned.checked.prog.varReadable n))=true/\(Tryz.f8.resultTypes.all (fun t=>Tryz.pinned.checked.prog.readableRec t&&decide (t<Tryz.pinned.checked.prog.types.size)))=true/\((Rows.bindTellsRow.ifacesOut==Tryz.f8.resultTypes.toList.any (fun t=>Tryz.pinned.checked.prog.ifacesRec t)))=true/\((Rows.bindTellsRow.loopsOut==Tryz.f8.resultTypes.toList.any (fun t=>Tryz.pinned.checked.prog.loopsFrom t)))=true:=by
 have h:((Rows.bindTellsRow.wf (OpenSpec.ofChange Rows.bindTellsSpec))&&((Tryz.f8.params.all (fun t=>Tryz.pinned.checked.prog.readableRec t))&&((namedTie Tryz.pinned.checked.prog Rows.bindTellsRow.named Rows.bindTellsSpec.vars)&&(((Rows.bindTellsRow.stops==[]))&&(((Rows.bindTellsRow.knobs==[]))&&(((Rows.bindTellsRow.maps==(Tryz.f8.params.toList++Rows.bindTellsSpec.plain.varTypes Tryz.pinned.checked.prog).any (fun t=>Tryz.pinned.checked.prog.mapsRec t)))&&(((Rows.bindTellsRow.ifaces==(Tryz.f8.params.toList++Rows.bindTellsSpec.plain.varTypes Tryz.pinned.checked.prog).any (fun t=>Tryz.pinned.checked.prog.ifacesRec t)))&&(((Rows.bindTellsRow.mapsOut==Tryz.pinned.checked.prog.mapsAmong Tryz.f8.resultTypes.toList))&&(((Rows.bindTellsRow.loops==(Tryz.f8.params.toList++Rows.bindTellsSpec.plain.varTypes Tryz.pinned.checked.prog).any (fun t=>Tryz.pinned.checked.prog.loopsFrom t)))&&(((Rows.bindTellsRow.wideKeys==(Tryz.f8.params.toList++Rows.bindTellsSpec.plain.varTypes Tryz.pinned.checked.prog++Tryz.f8.resultTypes.toList).any (fun t=>Tryz.pinned.checked.prog.wideKeysFrom t)))&&((Rows.bindTellsSpec.vars.all (fun n=>Tryz.pinned.checked.prog.varReadable n))&&((Tryz.f8.resultTypes.all (fun t=>Tryz.pinned.checked.prog.readableRec t&&decide (t<Tryz.pinned.checked.prog.types.size)))&&(((Rows.bindTellsRow.ifacesOut==Tryz.f8.resultTypes.toList.any (fun t=>Tryz.pinned.checked.prog.ifacesRec t)))&&(((Rows.bindTellsRow.loopsOut==Tryz.f8.resultTypes.toList.any (fun t=>Tryz.pinned.checked.prog.loopsFrom t)))))))))))))))))=true:=by kernel_rfl
 simpa only [Bool.and_eq_true] using h
def oS:((Rows.bindTellsRow.inPlace==Tryz.pinned.checked.prog.inPlace 8))=true/\((Rows.bindTellsRow.unfollowed==Tryz.pinned.checked.prog.unfollowed 8))=true/\((Rows.bindTellsRow.recurses==Tryz.pinned.checked.prog.recurses 8))=true/\((Rows.bindTellsRow.named==Tryz.pinned.checked.prog.varsNamed 8))=true:=by
 have h:(((Rows.bindTellsRow.inPlace==Tryz.pinned.checked.prog.inPlace 8))&&(((Rows.bindTellsRow.unfollowed==Tryz.pinned.checked.prog.unfollowed 8))&&(((Rows.bindTellsRow.recurses==Tryz.pinned.checked.prog.recurses 8))&&(((Rows.bindTellsRow.named==Tryz.pinned.checked.prog.varsNamed 8))))))=true:=by kernel_rfl
 simpa only [Bool.and_eq_true] using h
def jM:((Rows.bindTellsRow.plainKeys==Tryz.pinned.checked.prog.plainKeys))=true/\(Rows.bindTellsRow.shortTexts.isNone)=true/\((Rows.bindTellsRow.lifted==Tryz.pinned.checked.prog.liftsFinal))=true/\((Tryz.pinned.checked.prog.make==some Rows.bindTellsRow.make))=true/\((Rows.bindTellsRow.pinned==Rows.bindTellsRow.pinnedBy))=true/\((Rows.bindTellsRow.veiled==(Tryz.f8.params.toList++Rows.bindTellsSpec.plain.varTypes Tryz.pinned.checked.prog++Tryz.f8.resultTypes.toList).any (fun t=>Tryz.pinned.checked.prog.veiledRec t)))=true/\(Rows.bindTellsRow.veiledFits Tryz.pinned.checked.prog Tryz.f8.params.toList (Tryz.f8.params.toList++Rows.bindTellsSpec.plain.varTypes Tryz.pinned.checked.prog++Tryz.f8.resultTypes.toList))=true:=by
 have h:(((Rows.bindTellsRow.plainKeys==Tryz.pinned.checked.prog.plainKeys))&&((Rows.bindTellsRow.shortTexts.isNone)&&(((Rows.bindTellsRow.lifted==Tryz.pinned.checked.prog.liftsFinal))&&(((Tryz.pinned.checked.prog.make==some Rows.bindTellsRow.make))&&(((Rows.bindTellsRow.pinned==Rows.bindTellsRow.pinnedBy))&&(((Rows.bindTellsRow.veiled==(Tryz.f8.params.toList++Rows.bindTellsSpec.plain.varTypes Tryz.pinned.checked.prog++Tryz.f8.resultTypes.toList).any (fun t=>Tryz.pinned.checked.prog.veiledRec t)))&&((Rows.bindTellsRow.veiledFits Tryz.pinned.checked.prog Tryz.f8.params.toList (Tryz.f8.params.toList++Rows.bindTellsSpec.plain.varTypes Tryz.pinned.checked.prog++Tryz.f8.resultTypes.toList)))))))))=true:=by kernel_rfl
 simpa only [Bool.and_eq_true] using h
def vK:joinedFacts Tryz.pinned.checked.prog 8 Tryz.f8 Rows.bindTellsSpec Rows.bindTellsRow=true:=by
 unfold joinedFacts
 exact dM (dM (dM (dM (dM (dM (dM (dM (dM (dM (dM (dM (dM (dM (dM (dM (dM (dM (dM (dM (dM (dM (dM (dM (dM (dM (dM (dM (dM (dM (dM (eA.1) (rz.1)) (rz.2.1)) (eA.2.1)) (eA.2.2.1)) (eA.2.2.2.1)) (rz.2.2.1)) (eA.2.2.2.2.1)) (rz.2.2.2.1)) (oS.1)) (oS.2.1)) (oS.2.2.1)) (oS.2.2.2)) (eA.2.2.2.2.2.1)) (eA.2.2.2.2.2.2.1)) (eA.2.2.2.2.2.2.2.1)) (eA.2.2.2.2.2.2.2.2.1)) (eA.2.2.2.2.2.2.2.2.2.1)) (eA.2.2.2.2.2.2.2.2.2.2.1)) (eA.2.2.2.2.2.2.2.2.2.2.2.1)) (eA.2.2.2.2.2.2.2.2.2.2.2.2.1)) (eA.2.2.2.2.2.2.2.2.2.2.2.2.2)) (jM.1)) (jM.2.1)) (rz.2.2.2.2.1)) (rz.2.2.2.2.2)) (jM.2.2.1)) (jM.2.2.2.1)) (by kernel_rfl)) (jM.2.2.2.2.1)) (jM.2.2.2.2.2.1)) (jM.2.2.2.2.2.2)
def yn:Rows.BindTellsSaid:=
 OpenClaim.holds_of_wide 8 Tryz.f8 rfl rfl rfl rfl rfl rfl rfl ⟨rfl,rfl,rfl,rfl,rfl⟩ rfl rfl rfl rfl rfl qo Tryz.func8 vK
  (of_decide_eq_true (by kernel_rfl)) (by unfold Func.isWrapper;first|(rw [if_pos (by decide+kernel)];kernel_rfl)|(rw [if_neg (by decide+kernel)];exact⟨rfl,rfl⟩))
  (fun os started h1 enc _=>vJ os started h1 enc)
theorem bindTells_card:Rows.BindTellsCardSaid:=
 Claim7.holds_tied_plain_at .later [] [.data,.widerDeep,.data,.pinned,.pinned] true (true, "994ba46e7a82f8141f915d9f3da3b6056a2eae399341bbf3229131cb61b0b052") false
  yn (fun _ h=>by cases h) (by kernel_rfl) (fun _ h=>by cases h) bindTells_row_tie rfl ⟨rfl,rfl⟩ IX rfl
  (fun f fn hf hfn=>by
   obtain rfl:f=8:=Option.some.inj ((show Tryz.prog.funcNamed "bowsprit/bowspritlaw12.BindTells" =some 8 from qo).symm.trans hf)|>.symm
   obtain rfl:fn=Tryz.f8:=(Option.some.inj (Tryz.func8.symm.trans hfn)).symm
   exact⟨Hk,fun j t Y=>by
    rw [Tryz.params8]at Y
    have hm:t∈[24,35,31]:=by simpa using Array.mem_of_getElem? Y
    have hall:([24,35,31].all fun u=> !Tryz.prog.wantsStandIn u)=true:=by kernel_rfl
    exact(show Tryz.prog.wantsStandIn t=false by simpa using List.all_eq_true.1 hall t hm)⟩)
  yo
#print axioms bindTells_card
end Go.Proofs.YthbdkceckjihgaaGreatDoor

