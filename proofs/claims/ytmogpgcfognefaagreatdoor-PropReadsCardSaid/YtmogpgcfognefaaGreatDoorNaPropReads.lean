/- cG of this claim: PropReads. -/
import Derived.Test.YtmogpgcfognefaaGreatDoorNaA0
import Derived.Test.YtmogpgcfognefaaGreatDoorNaP11
import Derived.Test.YtmogpgcfognefaaGreatDoorNaY7
import Derived.Test.YtmogpgcfognefaaGreatDoorTie
import Derived.Test.YtmogpgcfognefaaGreatDoorCards
import Derived.SevenTiedAt
set_option linter.all false
namespace Go.Proofs.YtmogpgcfognefaaGreatDoor
open Go Go.ChangeShapes Go.WideShapes Go.ChangeAt Go.RowKit

set_option maxRecDepth 100000 in
theorem uT(os:Os)(started:os.Started)(H:Type)(enc:TypeId×Value→H):
  ReturnsInHanded {} Tryz.checked os 4 .any (fun w args=>(Rows.propReadsSpec.pre enc Tryz.prog Tryz.f4 [] false w args∧laidMetH Tryz.prog tK w)∧sizedMet enc Tryz.prog Tryz.f4 (OpenSpec.ofChange Rows.propReadsSpec) false w args)
   (Rows.propReadsSpec.post enc Tryz.prog Tryz.f4 false true false false):=by
 refine returnsInHanded_of_change_and (C:=Tryz.checked) (X:=fun w _=>laidMetH Tryz.prog tK w) (fun _ _ _ hh h=>h.of_heap hh) Lo started (by kernel_rfl) Tryz.func4
  (ChangeSpec.witness_shaped (enc:=enc) (C:=Tryz.checked) (os:=os) (X:=fun w _=>laidMetH Tryz.prog tK w) false (World.laidAll Tryz.prog os tK) #[.agg #[.slice none 0 0],.agg #[.slice none 0 0]] 8 (World.laidAll_os _ _ _) (World.shaped_of_ZipB (by kernel_rfl) (by kernel_rfl)) (by kernel_rfl) (by kernel_rfl) (by kernel_rfl) (HP os _)) ?_
 intro W base args ds gs before hval0 hW hcnd _ hL _
 have hval: ∀(j:Nat) t v,Tryz.f4.params[j]? =some t→args[j]? =some v→Value.okWide Tryz.prog W .any base t v:=hval0
 have hW' :=hW
 obtain⟨p,q,hA0,hV,hbf,hfz,hnd⟩:=hW
 have hA:DataW.TrodAll enc Tryz.prog W 0 (fun _=>true) true Tryz.f4.params.toList args.toList ds p:=hA0
 have hgs:gs=[]:=by
  cases gs with
  |nil=>rfl
  |cons g gs=>exact hV.elim
 rw [Tryz.params4]at hA hval
 obtain⟨v0,v1,d0,d1,p0,p1,hargs,hds,hps,h0,h1⟩:=trodAll_two hA
 obtain⟨a0,ha0,ho0⟩:=E2 (MN enc W) BF rfl h0 (uh Tryz.underlying24 (hval 0 24 v0 rfl (by rw [hargs];rfl)))
 obtain⟨a1,ha1,ho1⟩:=E2 (MJ enc W) Hb rfl h1 (uh Tryz.underlying37 (hval 1 37 v1 rfl (by rw [hargs];rfl)))
 have hcall:=Nz a0 a1 (xq a0 a1) W (BW W) [v0,v1] (Lj W (Gc hL) (G3 hL)) ⟨ha0,ha1,trivial⟩
 have hargs' :args=[v0,v1].toArray:=hargs
 rw [←hargs']at hcall
 refine hcall.mono fun e W' ⟨v,S',he,hext,_,hv⟩=>⟨v,he,?_⟩
 rw [fy.1 hv]
 exact Ho (tb:=4) IT (by rw [Tryz.params4];decide+kernel) rfl rfl Tryz.underlying4 hW' (by rw [hgs,hds];rfl) (A6 hext)
theorem qu:Tryz.pinned.checked.prog.funcNamed Rows.propReadsRow.func=some 4:=by kernel_rfl
theorem xu:false=Rows.propReadsRow.goesBy Tryz.pinned.checked.prog:=by kernel_rfl
theorem eP:(Rows.propReadsRow.wf (OpenSpec.ofChange Rows.propReadsSpec))=true∧(Tryz.f4.params.all (fun t=>Tryz.pinned.checked.prog.readableRec t))=true∧(namedTie Tryz.pinned.checked.prog Rows.propReadsRow.named Rows.propReadsSpec.vars)=true∧((Rows.propReadsRow.stops==[]))=true∧((Rows.propReadsRow.knobs==[]))=true∧((Rows.propReadsRow.maps==(Tryz.f4.params.toList++Rows.propReadsSpec.plain.varTypes Tryz.pinned.checked.prog).any (fun t=>Tryz.pinned.checked.prog.mapsRec t)))=true∧((Rows.propReadsRow.ifaces==(Tryz.f4.params.toList++Rows.propReadsSpec.plain.varTypes Tryz.pinned.checked.prog).any (fun t=>Tryz.pinned.checked.prog.ifacesRec t)))=true∧((Rows.propReadsRow.mapsOut==Tryz.pinned.checked.prog.mapsAmong Tryz.f4.resultTypes.toList))=true∧((Rows.propReadsRow.loops==(Tryz.f4.params.toList++Rows.propReadsSpec.plain.varTypes Tryz.pinned.checked.prog).any (fun t=>Tryz.pinned.checked.prog.loopsFrom t)))=true∧((Rows.propReadsRow.wideKeys==(Tryz.f4.params.toList++Rows.propReadsSpec.plain.varTypes Tryz.pinned.checked.prog++Tryz.f4.resultTypes.toList).any (fun t=>Tryz.pinned.checked.prog.wideKeysFrom t)))=true∧(Rows.propReadsSpec.vars.all (fun n=>Tryz.pinned.checked.prog.varReadable n))=true∧(Tryz.f4.resultTypes.all (fun t=>Tryz.pinned.checked.prog.readableRec t&&decide (t<Tryz.pinned.checked.prog.types.size)))=true∧((Rows.propReadsRow.ifacesOut==Tryz.f4.resultTypes.toList.any (fun t=>Tryz.pinned.checked.prog.ifacesRec t)))=true∧((Rows.propReadsRow.loopsOut==Tryz.f4.resultTypes.toList.any (fun t=>Tryz.pinned.checked.prog.loopsFrom t)))=true:=by
 have h:((Rows.propReadsRow.wf (OpenSpec.ofChange Rows.propReadsSpec))&&((Tryz.f4.params.all (fun t=>Tryz.pinned.checked.prog.readableRec t))&&((namedTie Tryz.pinned.checked.prog Rows.propReadsRow.named Rows.propReadsSpec.vars)&&(((Rows.propReadsRow.stops==[]))&&(((Rows.propReadsRow.knobs==[]))&&(((Rows.propReadsRow.maps==(Tryz.f4.params.toList++Rows.propReadsSpec.plain.varTypes Tryz.pinned.checked.prog).any (fun t=>Tryz.pinned.checked.prog.mapsRec t)))&&(((Rows.propReadsRow.ifaces==(Tryz.f4.params.toList++Rows.propReadsSpec.plain.varTypes Tryz.pinned.checked.prog).any (fun t=>Tryz.pinned.checked.prog.ifacesRec t)))&&(((Rows.propReadsRow.mapsOut==Tryz.pinned.checked.prog.mapsAmong Tryz.f4.resultTypes.toList))&&(((Rows.propReadsRow.loops==(Tryz.f4.params.toList++Rows.propReadsSpec.plain.varTypes Tryz.pinned.checked.prog).any (fun t=>Tryz.pinned.checked.prog.loopsFrom t)))&&(((Rows.propReadsRow.wideKeys==(Tryz.f4.params.toList++Rows.propReadsSpec.plain.varTypes Tryz.pinned.checked.prog++Tryz.f4.resultTypes.toList).any (fun t=>Tryz.pinned.checked.prog.wideKeysFrom t)))&&((Rows.propReadsSpec.vars.all (fun n=>Tryz.pinned.checked.prog.varReadable n))&&((Tryz.f4.resultTypes.all (fun t=>Tryz.pinned.checked.prog.readableRec t&&decide (t<Tryz.pinned.checked.prog.types.size)))&&(((Rows.propReadsRow.ifacesOut==Tryz.f4.resultTypes.toList.any (fun t=>Tryz.pinned.checked.prog.ifacesRec t)))&&(((Rows.propReadsRow.loopsOut==Tryz.f4.resultTypes.toList.any (fun t=>Tryz.pinned.checked.prog.loopsFrom t)))))))))))))))))=true:=by kernel_rfl
 simpa only [Bool.and_eq_true] using h
theorem oW:((Rows.propReadsRow.inPlace==Tryz.pinned.checked.prog.inPlace 4))=true∧((Rows.propReadsRow.unfollowed==Tryz.pinned.checked.prog.unfollowed 4))=true∧((Rows.propReadsRow.recurses==Tryz.pinned.checked.prog.recurses 4))=true∧((Rows.propReadsRow.named==Tryz.pinned.checked.prog.varsNamed 4))=true:=by
 have h:(((Rows.propReadsRow.inPlace==Tryz.pinned.checked.prog.inPlace 4))&&(((Rows.propReadsRow.unfollowed==Tryz.pinned.checked.prog.unfollowed 4))&&(((Rows.propReadsRow.recurses==Tryz.pinned.checked.prog.recurses 4))&&(((Rows.propReadsRow.named==Tryz.pinned.checked.prog.varsNamed 4))))))=true:=by kernel_rfl
 simpa only [Bool.and_eq_true] using h
theorem kS:((Rows.propReadsRow.plainKeys==Tryz.pinned.checked.prog.plainKeys))=true∧(Rows.propReadsRow.shortTexts.isNone)=true∧((Rows.propReadsRow.lifted==Tryz.pinned.checked.prog.liftsFinal))=true∧((Tryz.pinned.checked.prog.make==some Rows.propReadsRow.make))=true∧((Rows.propReadsRow.pinned==Rows.propReadsRow.pinnedBy))=true∧((Rows.propReadsRow.veiled==(Tryz.f4.params.toList++Rows.propReadsSpec.plain.varTypes Tryz.pinned.checked.prog++Tryz.f4.resultTypes.toList).any (fun t=>Tryz.pinned.checked.prog.veiledRec t)))=true∧(Rows.propReadsRow.veiledFits Tryz.pinned.checked.prog Tryz.f4.params.toList (Tryz.f4.params.toList++Rows.propReadsSpec.plain.varTypes Tryz.pinned.checked.prog++Tryz.f4.resultTypes.toList))=true:=by
 have h:(((Rows.propReadsRow.plainKeys==Tryz.pinned.checked.prog.plainKeys))&&((Rows.propReadsRow.shortTexts.isNone)&&(((Rows.propReadsRow.lifted==Tryz.pinned.checked.prog.liftsFinal))&&(((Tryz.pinned.checked.prog.make==some Rows.propReadsRow.make))&&(((Rows.propReadsRow.pinned==Rows.propReadsRow.pinnedBy))&&(((Rows.propReadsRow.veiled==(Tryz.f4.params.toList++Rows.propReadsSpec.plain.varTypes Tryz.pinned.checked.prog++Tryz.f4.resultTypes.toList).any (fun t=>Tryz.pinned.checked.prog.veiledRec t)))&&((Rows.propReadsRow.veiledFits Tryz.pinned.checked.prog Tryz.f4.params.toList (Tryz.f4.params.toList++Rows.propReadsSpec.plain.varTypes Tryz.pinned.checked.prog++Tryz.f4.resultTypes.toList)))))))))=true:=by kernel_rfl
 simpa only [Bool.and_eq_true] using h
theorem uU:joinedFacts Tryz.pinned.checked.prog 4 Tryz.f4 Rows.propReadsSpec Rows.propReadsRow=true:=by
 unfold joinedFacts
 exact dU (dU (dU (dU (dU (dU (dU (dU (dU (dU (dU (dU (dU (dU (dU (dU (dU (dU (dU (dU (dU (dU (dU (dU (dU (dU (dU (dU (dU (dU (dU (eP.1) (rC.1)) (rC.2.1)) (eP.2.1)) (eP.2.2.1)) (eP.2.2.2.1)) (rC.2.2.1)) (eP.2.2.2.2.1)) (rC.2.2.2.1)) (oW.1)) (oW.2.1)) (oW.2.2.1)) (oW.2.2.2)) (eP.2.2.2.2.2.1)) (eP.2.2.2.2.2.2.1)) (eP.2.2.2.2.2.2.2.1)) (eP.2.2.2.2.2.2.2.2.1)) (eP.2.2.2.2.2.2.2.2.2.1)) (eP.2.2.2.2.2.2.2.2.2.2.1)) (eP.2.2.2.2.2.2.2.2.2.2.2.1)) (eP.2.2.2.2.2.2.2.2.2.2.2.2.1)) (eP.2.2.2.2.2.2.2.2.2.2.2.2.2)) (kS.1)) (kS.2.1)) (rC.2.2.2.2.1)) (rC.2.2.2.2.2)) (kS.2.2.1)) (kS.2.2.2.1)) (by kernel_rfl)) (kS.2.2.2.2.1)) (kS.2.2.2.2.2.1)) (kS.2.2.2.2.2.2)
theorem xr:Rows.PropReadsSaid:=
 OpenClaim.holds_of_wide 4 Tryz.f4 rfl rfl rfl rfl rfl rfl rfl ⟨rfl,rfl,rfl,rfl,rfl⟩ rfl rfl rfl rfl rfl qu Tryz.func4 uU
  (of_decide_eq_true (by kernel_rfl)) (by unfold Func.isWrapper;first|(rw [if_pos (by decide+kernel)];kernel_rfl)|(rw [if_neg (by decide+kernel)];exact⟨rfl,rfl⟩))
  (fun os started H enc _=>uT os started H enc)
theorem propReads_card:Rows.PropReadsCardSaid:=
 Claim7.holds_tied_plain_at .later [] [.data,.widerDeep,.data,.pinned,.pinned] true (true, "bb13d3eb1f937d7c1d6c9112fc0e8d4933c1a8b2b26744fdabef76fe234983bc") false
  xr (fun _ h=>by cases h) (by kernel_rfl) (fun _ h=>by cases h) propReads_row_tie rfl ⟨rfl,rfl⟩ IH rfl
  (fun f fn hf hfn=>by
   obtain rfl:f=4:=Option.some.inj ((show Tryz.prog.funcNamed "bowsprit/bowspritlaw18.PropReads" =some 4 from qu).symm.trans hf)|>.symm
   obtain rfl:fn=Tryz.f4:=(Option.some.inj (Tryz.func4.symm.trans hfn)).symm
   exact⟨Hf,fun j t ht=>by
    rw [Tryz.params4]at ht
    have hm:t∈[24,37]:=by simpa using Array.mem_of_getElem? ht
    have hall:([24,37].all fun u=> !Tryz.prog.wantsStandIn u)=true:=by kernel_rfl
    exact(show Tryz.prog.wantsStandIn t=false by simpa using List.all_eq_true.1 hall t hm)⟩)
  xu
#print axioms propReads_card
end Go.Proofs.YtmogpgcfognefaaGreatDoor

