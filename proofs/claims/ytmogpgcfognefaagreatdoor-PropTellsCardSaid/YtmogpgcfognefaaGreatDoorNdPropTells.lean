/- di of this claim: PropTells. -/
import Derived.Test.YtmogpgcfognefaaGreatDoorNdA0
import Derived.Test.YtmogpgcfognefaaGreatDoorNdP18
import Derived.Test.YtmogpgcfognefaaGreatDoorNdY17
import Derived.Test.YtmogpgcfognefaaGreatDoorTie
import Derived.Test.YtmogpgcfognefaaGreatDoorCards
import Derived.SevenTiedAt
set_option linter.all false
namespace Go.Proofs.YtmogpgcfognefaaGreatDoor
open Go Go.ChangeShapes Go.WideShapes Go.ChangeAt Go.RowKit

set_option maxRecDepth 100000 in
theorem As(os:Os)(started:os.Started)(H:Type)(enc:TypeId×Value→H):
  ReturnsInHanded {} Tryz.checked os 5 .any (fun w args=>(Rows.propTellsSpec.pre enc Tryz.prog Tryz.f5 [] false w args∧laidMetH Tryz.prog zp w)∧sizedMet enc Tryz.prog Tryz.f5 (OpenSpec.ofChange Rows.propTellsSpec) false w args)
   (Rows.propTellsSpec.post enc Tryz.prog Tryz.f5 false true false false):=by
 refine returnsInHanded_of_change_and (C:=Tryz.checked) (X:=fun w _=>laidMetH Tryz.prog zp w) (fun _ _ _ hh h=>h.of_heap hh) TE started (by kernel_rfl) Tryz.func5
  (ChangeSpec.witness_shaped (enc:=enc) (C:=Tryz.checked) (os:=os) (X:=fun w _=>laidMetH Tryz.prog zp w) false (World.laidAll Tryz.prog os zp) #[.agg #[.slice none 0 0],.agg #[.slice none 0 0],.slice none 0 0] 8 (World.laidAll_os _ _ _) (World.shaped_of_ZipB (by kernel_rfl) (by kernel_rfl)) (by kernel_rfl) (by kernel_rfl) (by kernel_rfl) (Pc os _)) ?_
 intro W base args ds gs before hval0 hW hcnd _ hL _
 have hval: ∀(j:Nat) t v,Tryz.f5.params[j]? =some t→args[j]? =some v→Value.okWide Tryz.prog W .any base t v:=hval0
 have hW' :=hW
 obtain⟨p,q,hA0,hV,hbf,hfz,hnd⟩:=hW
 have hA:DataW.TrodAll enc Tryz.prog W 0 (fun _=>true) true Tryz.f5.params.toList args.toList ds p:=hA0
 have hgs:gs=[]:=by
  cases gs with
  |nil=>rfl
  |cons g gs=>exact hV.elim
 rw [Tryz.params5]at hA hval
 obtain⟨v0,v1,v2,d0,d1,d2,p0,p1,p2,hargs,hds,hps,h0,h1,h2⟩:=trodAll_three hA
 obtain⟨a0,ha0,ho0⟩:=LH (Vh enc W) HB rfl h0 (zL Tryz.underlying24 (hval 0 24 v0 rfl (by rw [hargs];rfl)))
 obtain⟨a1,ha1,ho1⟩:=LH (Vd enc W) Oa rfl h1 (zL Tryz.underlying37 (hval 1 37 v1 rfl (by rw [hargs];rfl)))
 obtain⟨a2,ha2,ho2⟩:=Sr (Hl enc W) (q0 js) rfl h2 (Iq Tryz.underlying29 (hval 2 29 v2 rfl (by rw [hargs];rfl)))
 have hcall:=V2 a0 a1 a2 (CU a0 a1 a2) W (Em W) [v0,v1,v2] (Tz W (M1 hL) (N0 hL)) ⟨ha0,ha1,ha2,trivial⟩
 have hargs' :args=[v0,v1,v2].toArray:=hargs
 rw [←hargs']at hcall
 refine hcall.mono fun e W' ⟨v,S',he,hext,_,hv⟩=>⟨v,he,?_⟩
 rw [iv.1 hv]
 exact Ox (tb:=4) Qs (by rw [Tryz.params5];decide+kernel) rfl rfl Tryz.underlying4 hW' (by rw [hgs,hds];rfl) (GL hext)
theorem vW:Tryz.pinned.checked.prog.funcNamed Rows.propTellsRow.func=some 5:=by kernel_rfl
theorem CW:false=Rows.propTellsRow.goesBy Tryz.pinned.checked.prog:=by kernel_rfl
theorem gU:(Rows.propTellsRow.wf (OpenSpec.ofChange Rows.propTellsSpec))=true∧(Tryz.f5.params.all (fun t=>Tryz.pinned.checked.prog.readableRec t))=true∧(namedTie Tryz.pinned.checked.prog Rows.propTellsRow.named Rows.propTellsSpec.vars)=true∧((Rows.propTellsRow.stops==[]))=true∧((Rows.propTellsRow.knobs==[]))=true∧((Rows.propTellsRow.maps==(Tryz.f5.params.toList++Rows.propTellsSpec.plain.varTypes Tryz.pinned.checked.prog).any (fun t=>Tryz.pinned.checked.prog.mapsRec t)))=true∧((Rows.propTellsRow.ifaces==(Tryz.f5.params.toList++Rows.propTellsSpec.plain.varTypes Tryz.pinned.checked.prog).any (fun t=>Tryz.pinned.checked.prog.ifacesRec t)))=true∧((Rows.propTellsRow.mapsOut==Tryz.pinned.checked.prog.mapsAmong Tryz.f5.resultTypes.toList))=true∧((Rows.propTellsRow.loops==(Tryz.f5.params.toList++Rows.propTellsSpec.plain.varTypes Tryz.pinned.checked.prog).any (fun t=>Tryz.pinned.checked.prog.loopsFrom t)))=true∧((Rows.propTellsRow.wideKeys==(Tryz.f5.params.toList++Rows.propTellsSpec.plain.varTypes Tryz.pinned.checked.prog++Tryz.f5.resultTypes.toList).any (fun t=>Tryz.pinned.checked.prog.wideKeysFrom t)))=true∧(Rows.propTellsSpec.vars.all (fun n=>Tryz.pinned.checked.prog.varReadable n))=true∧(Tryz.f5.resultTypes.all (fun t=>Tryz.pinned.checked.prog.readableRec t&&decide (t<Tryz.pinned.checked.prog.types.size)))=true∧((Rows.propTellsRow.ifacesOut==Tryz.f5.resultTypes.toList.any (fun t=>Tryz.pinned.checked.prog.ifacesRec t)))=true∧((Rows.propTellsRow.loopsOut==Tryz.f5.resultTypes.toList.any (fun t=>Tryz.pinned.checked.prog.loopsFrom t)))=true:=by
 have h:((Rows.propTellsRow.wf (OpenSpec.ofChange Rows.propTellsSpec))&&((Tryz.f5.params.all (fun t=>Tryz.pinned.checked.prog.readableRec t))&&((namedTie Tryz.pinned.checked.prog Rows.propTellsRow.named Rows.propTellsSpec.vars)&&(((Rows.propTellsRow.stops==[]))&&(((Rows.propTellsRow.knobs==[]))&&(((Rows.propTellsRow.maps==(Tryz.f5.params.toList++Rows.propTellsSpec.plain.varTypes Tryz.pinned.checked.prog).any (fun t=>Tryz.pinned.checked.prog.mapsRec t)))&&(((Rows.propTellsRow.ifaces==(Tryz.f5.params.toList++Rows.propTellsSpec.plain.varTypes Tryz.pinned.checked.prog).any (fun t=>Tryz.pinned.checked.prog.ifacesRec t)))&&(((Rows.propTellsRow.mapsOut==Tryz.pinned.checked.prog.mapsAmong Tryz.f5.resultTypes.toList))&&(((Rows.propTellsRow.loops==(Tryz.f5.params.toList++Rows.propTellsSpec.plain.varTypes Tryz.pinned.checked.prog).any (fun t=>Tryz.pinned.checked.prog.loopsFrom t)))&&(((Rows.propTellsRow.wideKeys==(Tryz.f5.params.toList++Rows.propTellsSpec.plain.varTypes Tryz.pinned.checked.prog++Tryz.f5.resultTypes.toList).any (fun t=>Tryz.pinned.checked.prog.wideKeysFrom t)))&&((Rows.propTellsSpec.vars.all (fun n=>Tryz.pinned.checked.prog.varReadable n))&&((Tryz.f5.resultTypes.all (fun t=>Tryz.pinned.checked.prog.readableRec t&&decide (t<Tryz.pinned.checked.prog.types.size)))&&(((Rows.propTellsRow.ifacesOut==Tryz.f5.resultTypes.toList.any (fun t=>Tryz.pinned.checked.prog.ifacesRec t)))&&(((Rows.propTellsRow.loopsOut==Tryz.f5.resultTypes.toList.any (fun t=>Tryz.pinned.checked.prog.loopsFrom t)))))))))))))))))=true:=by kernel_rfl
 simpa only [Bool.and_eq_true] using h
theorem t7:((Rows.propTellsRow.inPlace==Tryz.pinned.checked.prog.inPlace 5))=true∧((Rows.propTellsRow.unfollowed==Tryz.pinned.checked.prog.unfollowed 5))=true∧((Rows.propTellsRow.recurses==Tryz.pinned.checked.prog.recurses 5))=true∧((Rows.propTellsRow.named==Tryz.pinned.checked.prog.varsNamed 5))=true:=by
 have h:(((Rows.propTellsRow.inPlace==Tryz.pinned.checked.prog.inPlace 5))&&(((Rows.propTellsRow.unfollowed==Tryz.pinned.checked.prog.unfollowed 5))&&(((Rows.propTellsRow.recurses==Tryz.pinned.checked.prog.recurses 5))&&(((Rows.propTellsRow.named==Tryz.pinned.checked.prog.varsNamed 5))))))=true:=by kernel_rfl
 simpa only [Bool.and_eq_true] using h
theorem oD:((Rows.propTellsRow.plainKeys==Tryz.pinned.checked.prog.plainKeys))=true∧(Rows.propTellsRow.shortTexts.isNone)=true∧((Rows.propTellsRow.lifted==Tryz.pinned.checked.prog.liftsFinal))=true∧((Tryz.pinned.checked.prog.make==some Rows.propTellsRow.make))=true∧((Rows.propTellsRow.pinned==Rows.propTellsRow.pinnedBy))=true∧((Rows.propTellsRow.veiled==(Tryz.f5.params.toList++Rows.propTellsSpec.plain.varTypes Tryz.pinned.checked.prog++Tryz.f5.resultTypes.toList).any (fun t=>Tryz.pinned.checked.prog.veiledRec t)))=true∧(Rows.propTellsRow.veiledFits Tryz.pinned.checked.prog Tryz.f5.params.toList (Tryz.f5.params.toList++Rows.propTellsSpec.plain.varTypes Tryz.pinned.checked.prog++Tryz.f5.resultTypes.toList))=true:=by
 have h:(((Rows.propTellsRow.plainKeys==Tryz.pinned.checked.prog.plainKeys))&&((Rows.propTellsRow.shortTexts.isNone)&&(((Rows.propTellsRow.lifted==Tryz.pinned.checked.prog.liftsFinal))&&(((Tryz.pinned.checked.prog.make==some Rows.propTellsRow.make))&&(((Rows.propTellsRow.pinned==Rows.propTellsRow.pinnedBy))&&(((Rows.propTellsRow.veiled==(Tryz.f5.params.toList++Rows.propTellsSpec.plain.varTypes Tryz.pinned.checked.prog++Tryz.f5.resultTypes.toList).any (fun t=>Tryz.pinned.checked.prog.veiledRec t)))&&((Rows.propTellsRow.veiledFits Tryz.pinned.checked.prog Tryz.f5.params.toList (Tryz.f5.params.toList++Rows.propTellsSpec.plain.varTypes Tryz.pinned.checked.prog++Tryz.f5.resultTypes.toList)))))))))=true:=by kernel_rfl
 simpa only [Bool.and_eq_true] using h
theorem Au:joinedFacts Tryz.pinned.checked.prog 5 Tryz.f5 Rows.propTellsSpec Rows.propTellsRow=true:=by
 unfold joinedFacts
 exact fK (fK (fK (fK (fK (fK (fK (fK (fK (fK (fK (fK (fK (fK (fK (fK (fK (fK (fK (fK (fK (fK (fK (fK (fK (fK (fK (fK (fK (fK (fK (gU.1) (xh.1)) (xh.2.1)) (gU.2.1)) (gU.2.2.1)) (gU.2.2.2.1)) (xh.2.2.1)) (gU.2.2.2.2.1)) (xh.2.2.2.1)) (t7.1)) (t7.2.1)) (t7.2.2.1)) (t7.2.2.2)) (gU.2.2.2.2.2.1)) (gU.2.2.2.2.2.2.1)) (gU.2.2.2.2.2.2.2.1)) (gU.2.2.2.2.2.2.2.2.1)) (gU.2.2.2.2.2.2.2.2.2.1)) (gU.2.2.2.2.2.2.2.2.2.2.1)) (gU.2.2.2.2.2.2.2.2.2.2.2.1)) (gU.2.2.2.2.2.2.2.2.2.2.2.2.1)) (gU.2.2.2.2.2.2.2.2.2.2.2.2.2)) (oD.1)) (oD.2.1)) (xh.2.2.2.2.1)) (xh.2.2.2.2.2)) (oD.2.2.1)) (oD.2.2.2.1)) (by kernel_rfl)) (oD.2.2.2.2.1)) (oD.2.2.2.2.2.1)) (oD.2.2.2.2.2.2)
theorem CV:Rows.PropTellsSaid:=
 OpenClaim.holds_of_wide 5 Tryz.f5 rfl rfl rfl rfl rfl rfl rfl ⟨rfl,rfl,rfl,rfl,rfl⟩ rfl rfl rfl rfl rfl vW Tryz.func5 Au
  (of_decide_eq_true (by kernel_rfl)) (by unfold Func.isWrapper;first|(rw [if_pos (by decide+kernel)];kernel_rfl)|(rw [if_neg (by decide+kernel)];exact⟨rfl,rfl⟩))
  (fun os started H enc _=>As os started H enc)
theorem propTells_card:Rows.PropTellsCardSaid:=
 Claim7.holds_tied_plain_at .later [] [.data,.widerDeep,.data,.pinned,.pinned] true (true, "bb13d3eb1f937d7c1d6c9112fc0e8d4933c1a8b2b26744fdabef76fe234983bc") false
  CV (fun _ h=>by cases h) (by kernel_rfl) (fun _ h=>by cases h) propTells_row_tie rfl ⟨rfl,rfl⟩ Qh rfl
  (fun f fn hf hfn=>by
   obtain rfl:f=5:=Option.some.inj ((show Tryz.prog.funcNamed "bowsprit/bowspritlaw18.PropTells" =some 5 from vW).symm.trans hf)|>.symm
   obtain rfl:fn=Tryz.f5:=(Option.some.inj (Tryz.func5.symm.trans hfn)).symm
   exact⟨Og,fun j t ht=>by
    rw [Tryz.params5]at ht
    have hm:t∈[24,37,29]:=by simpa using Array.mem_of_getElem? ht
    have hall:([24,37,29].all fun u=> !Tryz.prog.wantsStandIn u)=true:=by kernel_rfl
    exact(show Tryz.prog.wantsStandIn t=false by simpa using List.all_eq_true.1 hall t hm)⟩)
  CW
#print axioms propTells_card
end Go.Proofs.YtmogpgcfognefaaGreatDoor

