/- cN of this claim: PlanTells. -/
import Derived.Test.YtnmjbolollcokaaGreatDoorRaA0
import Derived.Test.YtnmjbolollcokaaGreatDoorRaP12
import Derived.Test.YtnmjbolollcokaaGreatDoorRaU3
import Derived.Test.YtnmjbolollcokaaGreatDoorTie
import Derived.Test.YtnmjbolollcokaaGreatDoorCards
import Derived.SevenTiedAt
set_option linter.all false
namespace Go.Proofs.YtnmjbolollcokaaGreatDoor
open Go Go.ChangeShapes Go.WideShapes Go.ChangeAt Go.RowKit

set_option maxRecDepth 100000 in
theorem tX(os:Os)(started:os.Started)(H:Type)(enc:TypeId×Value→H):
  ReturnsInHanded {} Tryz.checked os 6 .any (fun w args=>(Rows.planTellsSpec.pre enc Tryz.prog Tryz.f6 [] false w args∧laidMetH Tryz.prog sU w)∧sizedMet enc Tryz.prog Tryz.f6 (OpenSpec.ofChange Rows.planTellsSpec) false w args)
   (Rows.planTellsSpec.post enc Tryz.prog Tryz.f6 false true false false):=by
 refine returnsInHanded_of_change_and (C:=Tryz.checked) (X:=fun w _=>laidMetH Tryz.prog sU w) (fun _ _ _ hh h=>h.of_heap hh) Iu started (by kernel_rfl) Tryz.func6
  (ChangeSpec.witness_shaped (enc:=enc) (C:=Tryz.checked) (os:=os) (X:=fun w _=>laidMetH Tryz.prog sU w) false (World.laidAll Tryz.prog os sU) #[.agg #[.slice none 0 0],.agg #[.int .i64 0,.int .i64 0,.int .i64 0]] 8 (World.laidAll_os _ _ _) (World.shaped_of_ZipB (by kernel_rfl) (by kernel_rfl)) (by kernel_rfl) (by kernel_rfl) (by kernel_rfl) (FF os _)) ?_
 intro W base args ds gs before hval0 hW hcnd _ hL _
 have hval: ∀(j:Nat) t v,Tryz.f6.params[j]? =some t→args[j]? =some v→Value.okWide Tryz.prog W .any base t v:=hval0
 have hW' :=hW
 obtain⟨p,q,hA0,hV,hbf,hfz,hnd⟩:=hW
 have hA:DataW.TrodAll enc Tryz.prog W 0 (fun _=>true) true Tryz.f6.params.toList args.toList ds p:=hA0
 have hgs:gs=[]:=by
  cases gs with
  |nil=>rfl
  |cons g gs=>exact hV.elim
 rw [Tryz.params6]at hA hval
 obtain⟨v0,v1,d0,d1,p0,p1,hargs,hds,hps,h0,h1⟩:=trodAll_two hA
 obtain⟨a0,ha0,ho0⟩:=C1 (J3 enc W) EP rfl h0 (th Tryz.underlying33 (hval 0 33 v0 rfl (by rw [hargs];rfl)))
 obtain⟨a1,ha1,ho1⟩:=C1 (J1 enc W) DC rfl h1 (th Tryz.underlying55 (hval 1 55 v1 rfl (by rw [hargs];rfl)))
 have hcall:=Ku a0 a1 (wb a0 a1) W (AA W) [v0,v1] (Ir W (DW hL) (EH hL)) ⟨ha0,ha1,trivial⟩
 have hargs' :args=[v0,v1].toArray:=hargs
 rw [←hargs']at hcall
 refine hcall.mono fun e W' ⟨v,S',he,hext,_,hv⟩=>⟨v,he,?_⟩
 rw [fj.1 hv]
 exact E6 (tb:=4) Gs (by rw [Tryz.params6];decide+kernel) rfl rfl Tryz.underlying4 hW' (by rw [hgs,hds];rfl) (zq hext)
theorem pS:Tryz.pinned.checked.prog.funcNamed Rows.planTellsRow.func=some 6:=by kernel_rfl
theorem wd:false=Rows.planTellsRow.goesBy Tryz.pinned.checked.prog:=by kernel_rfl
theorem d4:(Rows.planTellsRow.wf (OpenSpec.ofChange Rows.planTellsSpec))=true∧(Tryz.f6.params.all (fun t=>Tryz.pinned.checked.prog.readableRec t))=true∧(namedTie Tryz.pinned.checked.prog Rows.planTellsRow.named Rows.planTellsSpec.vars)=true∧((Rows.planTellsRow.stops==[]))=true∧((Rows.planTellsRow.knobs==[]))=true∧((Rows.planTellsRow.maps==(Tryz.f6.params.toList++Rows.planTellsSpec.plain.varTypes Tryz.pinned.checked.prog).any (fun t=>Tryz.pinned.checked.prog.mapsRec t)))=true∧((Rows.planTellsRow.ifaces==(Tryz.f6.params.toList++Rows.planTellsSpec.plain.varTypes Tryz.pinned.checked.prog).any (fun t=>Tryz.pinned.checked.prog.ifacesRec t)))=true∧((Rows.planTellsRow.mapsOut==Tryz.pinned.checked.prog.mapsAmong Tryz.f6.resultTypes.toList))=true∧((Rows.planTellsRow.loops==(Tryz.f6.params.toList++Rows.planTellsSpec.plain.varTypes Tryz.pinned.checked.prog).any (fun t=>Tryz.pinned.checked.prog.loopsFrom t)))=true∧((Rows.planTellsRow.wideKeys==(Tryz.f6.params.toList++Rows.planTellsSpec.plain.varTypes Tryz.pinned.checked.prog++Tryz.f6.resultTypes.toList).any (fun t=>Tryz.pinned.checked.prog.wideKeysFrom t)))=true∧(Rows.planTellsSpec.vars.all (fun n=>Tryz.pinned.checked.prog.varReadable n))=true∧(Tryz.f6.resultTypes.all (fun t=>Tryz.pinned.checked.prog.readableRec t&&decide (t<Tryz.pinned.checked.prog.types.size)))=true∧((Rows.planTellsRow.ifacesOut==Tryz.f6.resultTypes.toList.any (fun t=>Tryz.pinned.checked.prog.ifacesRec t)))=true∧((Rows.planTellsRow.loopsOut==Tryz.f6.resultTypes.toList.any (fun t=>Tryz.pinned.checked.prog.loopsFrom t)))=true:=by
 have h:((Rows.planTellsRow.wf (OpenSpec.ofChange Rows.planTellsSpec))&&((Tryz.f6.params.all (fun t=>Tryz.pinned.checked.prog.readableRec t))&&((namedTie Tryz.pinned.checked.prog Rows.planTellsRow.named Rows.planTellsSpec.vars)&&(((Rows.planTellsRow.stops==[]))&&(((Rows.planTellsRow.knobs==[]))&&(((Rows.planTellsRow.maps==(Tryz.f6.params.toList++Rows.planTellsSpec.plain.varTypes Tryz.pinned.checked.prog).any (fun t=>Tryz.pinned.checked.prog.mapsRec t)))&&(((Rows.planTellsRow.ifaces==(Tryz.f6.params.toList++Rows.planTellsSpec.plain.varTypes Tryz.pinned.checked.prog).any (fun t=>Tryz.pinned.checked.prog.ifacesRec t)))&&(((Rows.planTellsRow.mapsOut==Tryz.pinned.checked.prog.mapsAmong Tryz.f6.resultTypes.toList))&&(((Rows.planTellsRow.loops==(Tryz.f6.params.toList++Rows.planTellsSpec.plain.varTypes Tryz.pinned.checked.prog).any (fun t=>Tryz.pinned.checked.prog.loopsFrom t)))&&(((Rows.planTellsRow.wideKeys==(Tryz.f6.params.toList++Rows.planTellsSpec.plain.varTypes Tryz.pinned.checked.prog++Tryz.f6.resultTypes.toList).any (fun t=>Tryz.pinned.checked.prog.wideKeysFrom t)))&&((Rows.planTellsSpec.vars.all (fun n=>Tryz.pinned.checked.prog.varReadable n))&&((Tryz.f6.resultTypes.all (fun t=>Tryz.pinned.checked.prog.readableRec t&&decide (t<Tryz.pinned.checked.prog.types.size)))&&(((Rows.planTellsRow.ifacesOut==Tryz.f6.resultTypes.toList.any (fun t=>Tryz.pinned.checked.prog.ifacesRec t)))&&(((Rows.planTellsRow.loopsOut==Tryz.f6.resultTypes.toList.any (fun t=>Tryz.pinned.checked.prog.loopsFrom t)))))))))))))))))=true:=by kernel_rfl
 simpa only [Bool.and_eq_true] using h
theorem nK:((Rows.planTellsRow.inPlace==Tryz.pinned.checked.prog.inPlace 6))=true∧((Rows.planTellsRow.unfollowed==Tryz.pinned.checked.prog.unfollowed 6))=true∧((Rows.planTellsRow.recurses==Tryz.pinned.checked.prog.recurses 6))=true∧((Rows.planTellsRow.named==Tryz.pinned.checked.prog.varsNamed 6))=true:=by
 have h:(((Rows.planTellsRow.inPlace==Tryz.pinned.checked.prog.inPlace 6))&&(((Rows.planTellsRow.unfollowed==Tryz.pinned.checked.prog.unfollowed 6))&&(((Rows.planTellsRow.recurses==Tryz.pinned.checked.prog.recurses 6))&&(((Rows.planTellsRow.named==Tryz.pinned.checked.prog.varsNamed 6))))))=true:=by kernel_rfl
 simpa only [Bool.and_eq_true] using h
theorem jn:((Rows.planTellsRow.plainKeys==Tryz.pinned.checked.prog.plainKeys))=true∧(Rows.planTellsRow.shortTexts.isNone)=true∧((Rows.planTellsRow.lifted==Tryz.pinned.checked.prog.liftsFinal))=true∧((Tryz.pinned.checked.prog.make==some Rows.planTellsRow.make))=true∧((Rows.planTellsRow.pinned==Rows.planTellsRow.pinnedBy))=true∧((Rows.planTellsRow.veiled==(Tryz.f6.params.toList++Rows.planTellsSpec.plain.varTypes Tryz.pinned.checked.prog++Tryz.f6.resultTypes.toList).any (fun t=>Tryz.pinned.checked.prog.veiledRec t)))=true∧(Rows.planTellsRow.veiledFits Tryz.pinned.checked.prog Tryz.f6.params.toList (Tryz.f6.params.toList++Rows.planTellsSpec.plain.varTypes Tryz.pinned.checked.prog++Tryz.f6.resultTypes.toList))=true:=by
 have h:(((Rows.planTellsRow.plainKeys==Tryz.pinned.checked.prog.plainKeys))&&((Rows.planTellsRow.shortTexts.isNone)&&(((Rows.planTellsRow.lifted==Tryz.pinned.checked.prog.liftsFinal))&&(((Tryz.pinned.checked.prog.make==some Rows.planTellsRow.make))&&(((Rows.planTellsRow.pinned==Rows.planTellsRow.pinnedBy))&&(((Rows.planTellsRow.veiled==(Tryz.f6.params.toList++Rows.planTellsSpec.plain.varTypes Tryz.pinned.checked.prog++Tryz.f6.resultTypes.toList).any (fun t=>Tryz.pinned.checked.prog.veiledRec t)))&&((Rows.planTellsRow.veiledFits Tryz.pinned.checked.prog Tryz.f6.params.toList (Tryz.f6.params.toList++Rows.planTellsSpec.plain.varTypes Tryz.pinned.checked.prog++Tryz.f6.resultTypes.toList)))))))))=true:=by kernel_rfl
 simpa only [Bool.and_eq_true] using h
theorem tY:joinedFacts Tryz.pinned.checked.prog 6 Tryz.f6 Rows.planTellsSpec Rows.planTellsRow=true:=by
 unfold joinedFacts
 exact dp (dp (dp (dp (dp (dp (dp (dp (dp (dp (dp (dp (dp (dp (dp (dp (dp (dp (dp (dp (dp (dp (dp (dp (dp (dp (dp (dp (dp (dp (dp (d4.1) (q8.1)) (q8.2.1)) (d4.2.1)) (d4.2.2.1)) (d4.2.2.2.1)) (q8.2.2.1)) (d4.2.2.2.2.1)) (q8.2.2.2.1)) (nK.1)) (nK.2.1)) (nK.2.2.1)) (nK.2.2.2)) (d4.2.2.2.2.2.1)) (d4.2.2.2.2.2.2.1)) (d4.2.2.2.2.2.2.2.1)) (d4.2.2.2.2.2.2.2.2.1)) (d4.2.2.2.2.2.2.2.2.2.1)) (d4.2.2.2.2.2.2.2.2.2.2.1)) (d4.2.2.2.2.2.2.2.2.2.2.2.1)) (d4.2.2.2.2.2.2.2.2.2.2.2.2.1)) (d4.2.2.2.2.2.2.2.2.2.2.2.2.2)) (jn.1)) (jn.2.1)) (q8.2.2.2.2.1)) (q8.2.2.2.2.2)) (jn.2.2.1)) (jn.2.2.2.1)) (by kernel_rfl)) (jn.2.2.2.2.1)) (jn.2.2.2.2.2.1)) (jn.2.2.2.2.2.2)
theorem wc:Rows.PlanTellsSaid:=
 OpenClaim.holds_of_wide 6 Tryz.f6 rfl rfl rfl rfl rfl rfl rfl ⟨rfl,rfl,rfl,rfl,rfl⟩ rfl rfl rfl rfl rfl pS Tryz.func6 tY
  (of_decide_eq_true (by kernel_rfl)) (by unfold Func.isWrapper;first|(rw [if_pos (by decide+kernel)];kernel_rfl)|(rw [if_neg (by decide+kernel)];exact⟨rfl,rfl⟩))
  (fun os started H enc _=>tX os started H enc)
theorem planTells_card:Rows.PlanTellsCardSaid:=
 Claim7.holds_tied_plain_at .later [] [.data,.widerDeep,.data,.pinned,.pinned] true (true, "2279216227f6392ae59b4ac39390836c23730c69cea3a1571a4ea39c3eac179e") false
  wc (fun _ h=>by cases h) (by kernel_rfl) (fun _ h=>by cases h) planTells_row_tie rfl ⟨rfl,rfl⟩ Gi rfl
  (fun f fn hf hfn=>by
   obtain rfl:f=6:=Option.some.inj ((show Tryz.prog.funcNamed "bowsprit/bowspritlaw19.PlanTells" =some 6 from pS).symm.trans hf)|>.symm
   obtain rfl:fn=Tryz.f6:=(Option.some.inj (Tryz.func6.symm.trans hfn)).symm
   exact⟨EU,fun j t ht=>by
    rw [Tryz.params6]at ht
    have hm:t∈[33,55]:=by simpa using Array.mem_of_getElem? ht
    have hall:([33,55].all fun u=> !Tryz.prog.wantsStandIn u)=true:=by kernel_rfl
    exact(show Tryz.prog.wantsStandIn t=false by simpa using List.all_eq_true.1 hall t hm)⟩)
  wd
#print axioms planTells_card
end Go.Proofs.YtnmjbolollcokaaGreatDoor

