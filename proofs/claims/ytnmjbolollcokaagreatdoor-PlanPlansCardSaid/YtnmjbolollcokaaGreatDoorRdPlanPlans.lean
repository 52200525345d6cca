/- dr of this claim: PlanPlans. -/
import Derived.Test.YtnmjbolollcokaaGreatDoorRdA0
import Derived.Test.YtnmjbolollcokaaGreatDoorRdP20
import Derived.Test.YtnmjbolollcokaaGreatDoorRdU10
import Derived.Test.YtnmjbolollcokaaGreatDoorTie
import Derived.Test.YtnmjbolollcokaaGreatDoorCards
import Derived.SevenTiedAt
set_option linter.all false
namespace Go.Proofs.YtnmjbolollcokaaGreatDoor
open Go Go.ChangeShapes Go.WideShapes Go.ChangeAt Go.RowKit

set_option maxRecDepth 100000 in
theorem Bw(os:Os)(started:os.Started)(H:Type)(enc:TypeId×Value→H):
  ReturnsInHanded {} Tryz.checked os 3 .any (fun w args=>(Rows.planPlansSpec.pre enc Tryz.prog Tryz.f3 [] false w args∧laidMetH Tryz.prog AC w)∧sizedMet enc Tryz.prog Tryz.f3 (OpenSpec.ofChange Rows.planPlansSpec) false w args)
   (Rows.planPlansSpec.post enc Tryz.prog Tryz.f3 false true false false):=by
 refine returnsInHanded_of_change_and (C:=Tryz.checked) (X:=fun w _=>laidMetH Tryz.prog AC w) (fun _ _ _ hh h=>h.of_heap hh) TP started (by kernel_rfl) Tryz.func3
  (ChangeSpec.witness_shaped (enc:=enc) (C:=Tryz.checked) (os:=os) (X:=fun w _=>laidMetH Tryz.prog AC w) false (World.laidAll Tryz.prog os AC) #[.agg #[.slice none 0 0],.agg #[.slice none 0 0]] 8 (World.laidAll_os _ _ _) (World.shaped_of_ZipB (by kernel_rfl) (by kernel_rfl)) (by kernel_rfl) (by kernel_rfl) (by kernel_rfl) (PP os _)) ?_
 intro W base args ds gs before hval0 hW hcnd _ hL _
 have hval: ∀(j:Nat) t v,Tryz.f3.params[j]? =some t→args[j]? =some v→Value.okWide Tryz.prog W .any base t v:=hval0
 have hW' :=hW
 obtain⟨p,q,hA0,hV,hbf,hfz,hnd⟩:=hW
 have hA:DataW.TrodAll enc Tryz.prog W 0 (fun _=>true) true Tryz.f3.params.toList args.toList ds p:=hA0
 have hgs:gs=[]:=by
  cases gs with
  |nil=>rfl
  |cons g gs=>exact hV.elim
 rw [Tryz.params3]at hA hval
 obtain⟨v0,v1,d0,d1,p0,p1,hargs,hds,hps,h0,h1⟩:=trodAll_two hA
 obtain⟨a0,ha0,ho0⟩:=Mb (VH enc W) MK rfl h0 (AW Tryz.underlying24 (hval 0 24 v0 rfl (by rw [hargs];rfl)))
 obtain⟨a1,ha1,ho1⟩:=Mb (VF enc W) Ik rfl h1 (AW Tryz.underlying27 (hval 1 27 v1 rfl (by rw [hargs];rfl)))
 have hcall:=Wc a0 a1 (DY a0 a1) W (II W) [v0,v1] (TN W (Nl hL) (Ot hL)) ⟨ha0,ha1,trivial⟩
 have hargs' :args=[v0,v1].toArray:=hargs
 rw [←hargs']at hcall
 refine hcall.mono fun e W' ⟨v,S',he,hext,_,hv⟩=>⟨v,he,?_⟩
 rw [ju.1 hv]
 exact OV (tb:=4) QX (by rw [Tryz.params3];decide+kernel) rfl rfl Tryz.underlying4 hW' (by rw [hgs,hds];rfl) (Hr hext)
theorem wM:Tryz.pinned.checked.prog.funcNamed Rows.planPlansRow.func=some 3:=by kernel_rfl
theorem D0:false=Rows.planPlansRow.goesBy Tryz.pinned.checked.prog:=by kernel_rfl
theorem ib:(Rows.planPlansRow.wf (OpenSpec.ofChange Rows.planPlansSpec))=true∧(Tryz.f3.params.all (fun t=>Tryz.pinned.checked.prog.readableRec t))=true∧(namedTie Tryz.pinned.checked.prog Rows.planPlansRow.named Rows.planPlansSpec.vars)=true∧((Rows.planPlansRow.stops==[]))=true∧((Rows.planPlansRow.knobs==[]))=true∧((Rows.planPlansRow.maps==(Tryz.f3.params.toList++Rows.planPlansSpec.plain.varTypes Tryz.pinned.checked.prog).any (fun t=>Tryz.pinned.checked.prog.mapsRec t)))=true∧((Rows.planPlansRow.ifaces==(Tryz.f3.params.toList++Rows.planPlansSpec.plain.varTypes Tryz.pinned.checked.prog).any (fun t=>Tryz.pinned.checked.prog.ifacesRec t)))=true∧((Rows.planPlansRow.mapsOut==Tryz.pinned.checked.prog.mapsAmong Tryz.f3.resultTypes.toList))=true∧((Rows.planPlansRow.loops==(Tryz.f3.params.toList++Rows.planPlansSpec.plain.varTypes Tryz.pinned.checked.prog).any (fun t=>Tryz.pinned.checked.prog.loopsFrom t)))=true∧((Rows.planPlansRow.wideKeys==(Tryz.f3.params.toList++Rows.planPlansSpec.plain.varTypes Tryz.pinned.checked.prog++Tryz.f3.resultTypes.toList).any (fun t=>Tryz.pinned.checked.prog.wideKeysFrom t)))=true∧(Rows.planPlansSpec.vars.all (fun n=>Tryz.pinned.checked.prog.varReadable n))=true∧(Tryz.f3.resultTypes.all (fun t=>Tryz.pinned.checked.prog.readableRec t&&decide (t<Tryz.pinned.checked.prog.types.size)))=true∧((Rows.planPlansRow.ifacesOut==Tryz.f3.resultTypes.toList.any (fun t=>Tryz.pinned.checked.prog.ifacesRec t)))=true∧((Rows.planPlansRow.loopsOut==Tryz.f3.resultTypes.toList.any (fun t=>Tryz.pinned.checked.prog.loopsFrom t)))=true:=by
 have h:((Rows.planPlansRow.wf (OpenSpec.ofChange Rows.planPlansSpec))&&((Tryz.f3.params.all (fun t=>Tryz.pinned.checked.prog.readableRec t))&&((namedTie Tryz.pinned.checked.prog Rows.planPlansRow.named Rows.planPlansSpec.vars)&&(((Rows.planPlansRow.stops==[]))&&(((Rows.planPlansRow.knobs==[]))&&(((Rows.planPlansRow.maps==(Tryz.f3.params.toList++Rows.planPlansSpec.plain.varTypes Tryz.pinned.checked.prog).any (fun t=>Tryz.pinned.checked.prog.mapsRec t)))&&(((Rows.planPlansRow.ifaces==(Tryz.f3.params.toList++Rows.planPlansSpec.plain.varTypes Tryz.pinned.checked.prog).any (fun t=>Tryz.pinned.checked.prog.ifacesRec t)))&&(((Rows.planPlansRow.mapsOut==Tryz.pinned.checked.prog.mapsAmong Tryz.f3.resultTypes.toList))&&(((Rows.planPlansRow.loops==(Tryz.f3.params.toList++Rows.planPlansSpec.plain.varTypes Tryz.pinned.checked.prog).any (fun t=>Tryz.pinned.checked.prog.loopsFrom t)))&&(((Rows.planPlansRow.wideKeys==(Tryz.f3.params.toList++Rows.planPlansSpec.plain.varTypes Tryz.pinned.checked.prog++Tryz.f3.resultTypes.toList).any (fun t=>Tryz.pinned.checked.prog.wideKeysFrom t)))&&((Rows.planPlansSpec.vars.all (fun n=>Tryz.pinned.checked.prog.varReadable n))&&((Tryz.f3.resultTypes.all (fun t=>Tryz.pinned.checked.prog.readableRec t&&decide (t<Tryz.pinned.checked.prog.types.size)))&&(((Rows.planPlansRow.ifacesOut==Tryz.f3.resultTypes.toList.any (fun t=>Tryz.pinned.checked.prog.ifacesRec t)))&&(((Rows.planPlansRow.loopsOut==Tryz.f3.resultTypes.toList.any (fun t=>Tryz.pinned.checked.prog.loopsFrom t)))))))))))))))))=true:=by kernel_rfl
 simpa only [Bool.and_eq_true] using h
theorem uM:((Rows.planPlansRow.inPlace==Tryz.pinned.checked.prog.inPlace 3))=true∧((Rows.planPlansRow.unfollowed==Tryz.pinned.checked.prog.unfollowed 3))=true∧((Rows.planPlansRow.recurses==Tryz.pinned.checked.prog.recurses 3))=true∧((Rows.planPlansRow.named==Tryz.pinned.checked.prog.varsNamed 3))=true:=by
 have h:(((Rows.planPlansRow.inPlace==Tryz.pinned.checked.prog.inPlace 3))&&(((Rows.planPlansRow.unfollowed==Tryz.pinned.checked.prog.unfollowed 3))&&(((Rows.planPlansRow.recurses==Tryz.pinned.checked.prog.recurses 3))&&(((Rows.planPlansRow.named==Tryz.pinned.checked.prog.varsNamed 3))))))=true:=by kernel_rfl
 simpa only [Bool.and_eq_true] using h
theorem oH:((Rows.planPlansRow.plainKeys==Tryz.pinned.checked.prog.plainKeys))=true∧(Rows.planPlansRow.shortTexts.isNone)=true∧((Rows.planPlansRow.lifted==Tryz.pinned.checked.prog.liftsFinal))=true∧((Tryz.pinned.checked.prog.make==some Rows.planPlansRow.make))=true∧((Rows.planPlansRow.pinned==Rows.planPlansRow.pinnedBy))=true∧((Rows.planPlansRow.veiled==(Tryz.f3.params.toList++Rows.planPlansSpec.plain.varTypes Tryz.pinned.checked.prog++Tryz.f3.resultTypes.toList).any (fun t=>Tryz.pinned.checked.prog.veiledRec t)))=true∧(Rows.planPlansRow.veiledFits Tryz.pinned.checked.prog Tryz.f3.params.toList (Tryz.f3.params.toList++Rows.planPlansSpec.plain.varTypes Tryz.pinned.checked.prog++Tryz.f3.resultTypes.toList))=true:=by
 have h:(((Rows.planPlansRow.plainKeys==Tryz.pinned.checked.prog.plainKeys))&&((Rows.planPlansRow.shortTexts.isNone)&&(((Rows.planPlansRow.lifted==Tryz.pinned.checked.prog.liftsFinal))&&(((Tryz.pinned.checked.prog.make==some Rows.planPlansRow.make))&&(((Rows.planPlansRow.pinned==Rows.planPlansRow.pinnedBy))&&(((Rows.planPlansRow.veiled==(Tryz.f3.params.toList++Rows.planPlansSpec.plain.varTypes Tryz.pinned.checked.prog++Tryz.f3.resultTypes.toList).any (fun t=>Tryz.pinned.checked.prog.veiledRec t)))&&((Rows.planPlansRow.veiledFits Tryz.pinned.checked.prog Tryz.f3.params.toList (Tryz.f3.params.toList++Rows.planPlansSpec.plain.varTypes Tryz.pinned.checked.prog++Tryz.f3.resultTypes.toList)))))))))=true:=by kernel_rfl
 simpa only [Bool.and_eq_true] using h
theorem Bx:joinedFacts Tryz.pinned.checked.prog 3 Tryz.f3 Rows.planPlansSpec Rows.planPlansRow=true:=by
 unfold joinedFacts
 exact fP (fP (fP (fP (fP (fP (fP (fP (fP (fP (fP (fP (fP (fP (fP (fP (fP (fP (fP (fP (fP (fP (fP (fP (fP (fP (fP (fP (fP (fP (fP (ib.1) (yo.1)) (yo.2.1)) (ib.2.1)) (ib.2.2.1)) (ib.2.2.2.1)) (yo.2.2.1)) (ib.2.2.2.2.1)) (yo.2.2.2.1)) (uM.1)) (uM.2.1)) (uM.2.2.1)) (uM.2.2.2)) (ib.2.2.2.2.2.1)) (ib.2.2.2.2.2.2.1)) (ib.2.2.2.2.2.2.2.1)) (ib.2.2.2.2.2.2.2.2.1)) (ib.2.2.2.2.2.2.2.2.2.1)) (ib.2.2.2.2.2.2.2.2.2.2.1)) (ib.2.2.2.2.2.2.2.2.2.2.2.1)) (ib.2.2.2.2.2.2.2.2.2.2.2.2.1)) (ib.2.2.2.2.2.2.2.2.2.2.2.2.2)) (oH.1)) (oH.2.1)) (yo.2.2.2.2.1)) (yo.2.2.2.2.2)) (oH.2.2.1)) (oH.2.2.2.1)) (by kernel_rfl)) (oH.2.2.2.2.1)) (oH.2.2.2.2.2.1)) (oH.2.2.2.2.2.2)
theorem DZ:Rows.PlanPlansSaid:=
 OpenClaim.holds_of_wide 3 Tryz.f3 rfl rfl rfl rfl rfl rfl rfl ⟨rfl,rfl,rfl,rfl,rfl⟩ rfl rfl rfl rfl rfl wM Tryz.func3 Bx
  (of_decide_eq_true (by kernel_rfl)) (by unfold Func.isWrapper;first|(rw [if_pos (by decide+kernel)];kernel_rfl)|(rw [if_neg (by decide+kernel)];exact⟨rfl,rfl⟩))
  (fun os started H enc _=>Bw os started H enc)
theorem planPlans_card:Rows.PlanPlansCardSaid:=
 Claim7.holds_tied_plain_at .later [] [.data,.widerDeep,.data,.pinned,.pinned] true (true, "2279216227f6392ae59b4ac39390836c23730c69cea3a1571a4ea39c3eac179e") false
  DZ (fun _ h=>by cases h) (by kernel_rfl) (fun _ h=>by cases h) planPlans_row_tie rfl ⟨rfl,rfl⟩ QL rfl
  (fun f fn hf hfn=>by
   obtain rfl:f=3:=Option.some.inj ((show Tryz.prog.funcNamed "bowsprit/bowspritlaw19.PlanPlans" =some 3 from wM).symm.trans hf)|>.symm
   obtain rfl:fn=Tryz.f3:=(Option.some.inj (Tryz.func3.symm.trans hfn)).symm
   exact⟨OD,fun j t ht=>by
    rw [Tryz.params3]at ht
    have hm:t∈[24,27]:=by simpa using Array.mem_of_getElem? ht
    have hall:([24,27].all fun u=> !Tryz.prog.wantsStandIn u)=true:=by kernel_rfl
    exact(show Tryz.prog.wantsStandIn t=false by simpa using List.all_eq_true.1 hall t hm)⟩)
  D0
#print axioms planPlans_card
end Go.Proofs.YtnmjbolollcokaaGreatDoor

