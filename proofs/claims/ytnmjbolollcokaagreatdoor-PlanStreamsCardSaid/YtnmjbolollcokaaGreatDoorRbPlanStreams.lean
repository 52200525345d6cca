/- cJ of this claim: PlanStreams. -/
import Derived.Test.YtnmjbolollcokaaGreatDoorRbA0
import Derived.Test.YtnmjbolollcokaaGreatDoorRbP12
import Derived.Test.YtnmjbolollcokaaGreatDoorRbU4
import Derived.Test.YtnmjbolollcokaaGreatDoorTie
import Derived.Test.YtnmjbolollcokaaGreatDoorCards
import Derived.SevenTiedAt
set_option linter.all false
namespace Go.Proofs.YtnmjbolollcokaaGreatDoor
open Go Go.ChangeShapes Go.WideShapes Go.ChangeAt Go.RowKit

set_option maxRecDepth 100000 in
theorem rL(os:Os)(started:os.Started)(H:Type)(enc:TypeId×Value→H):
  ReturnsInHanded {} Tryz.checked os 5 .any (fun w args=>(Rows.planStreamsSpec.pre enc Tryz.prog Tryz.f5 [] false w args∧laidMetH Tryz.prog sC w)∧sizedMet enc Tryz.prog Tryz.f5 (OpenSpec.ofChange Rows.planStreamsSpec) false w args)
   (Rows.planStreamsSpec.post enc Tryz.prog Tryz.f5 false true false false):=by
 refine returnsInHanded_of_change_and (C:=Tryz.checked) (X:=fun w _=>laidMetH Tryz.prog sC w) (fun _ _ _ hh h=>h.of_heap hh) IC started (by kernel_rfl) Tryz.func5
  (ChangeSpec.witness_shaped (enc:=enc) (C:=Tryz.checked) (os:=os) (X:=fun w _=>laidMetH Tryz.prog sC w) false (World.laidAll Tryz.prog os sC) #[.agg #[.slice none 0 0],.int .i64 0] 8 (World.laidAll_os _ _ _) (World.shaped_of_ZipB (by kernel_rfl) (by kernel_rfl)) (by kernel_rfl) (by kernel_rfl) (by kernel_rfl) (FL os _)) ?_
 intro W base args ds gs before hval0 hW hcnd _ hL _
 have hval: ∀(j:Nat) t v,Tryz.f5.params[j]? =some t→args[j]? =some v→Value.okWide Tryz.prog W .any base t v:=hval0
 have hW' :=hW
 obtain⟨p,q,hA0,hV,hbf,hfz,hnd⟩:=hW
 have hA:DataW.TrodAll enc Tryz.prog W 0 (fun _=>true) true Tryz.f5.params.toList args.toList ds p:=hA0
 have hgs:gs=[]:=by
  cases gs with
  |nil=>rfl
  |cons g gs=>exact hV.elim
 rw [Tryz.params5]at hA hval
 obtain⟨v0,v1,d0,d1,p0,p1,hargs,hds,hps,h0,h1⟩:=trodAll_two hA
 obtain⟨a0,ha0,ho0⟩:=HA (J5 enc W) EX rfl h0 (zn Tryz.underlying33 (hval 0 33 v0 rfl (by rw [hargs];rfl)))
 obtain⟨a1,ha1,ho1⟩:=Hz (qZ enc W) fH rfl h1 (D8 Tryz.underlying3 (hval 1 3 v1 rfl (by rw [hargs];rfl)))
 have hcall:=Ky a0 a1 (tz a0 a1) W (wY W) [v0,v1] (Iz W (DQ hL) (EL hL)) ⟨ha0,ha1,trivial⟩
 have hargs' :args=[v0,v1].toArray:=hargs
 rw [←hargs']at hcall
 refine hcall.mono fun e W' ⟨v,S',he,hext,_,hv⟩=>⟨v,he,?_⟩
 rw [fh.1 hv]
 exact Fe (tb:=4) Gz (by rw [Tryz.params5];decide+kernel) rfl rfl Tryz.underlying4 hW' (by rw [hgs,hds];rfl) (zp hext)
theorem nv:Tryz.pinned.checked.prog.funcNamed Rows.planStreamsRow.func=some 5:=by kernel_rfl
theorem tB:false=Rows.planStreamsRow.goesBy Tryz.pinned.checked.prog:=by kernel_rfl
theorem df:(Rows.planStreamsRow.wf (OpenSpec.ofChange Rows.planStreamsSpec))=true∧(Tryz.f5.params.all (fun t=>Tryz.pinned.checked.prog.readableRec t))=true∧(namedTie Tryz.pinned.checked.prog Rows.planStreamsRow.named Rows.planStreamsSpec.vars)=true∧((Rows.planStreamsRow.stops==[]))=true∧((Rows.planStreamsRow.knobs==[]))=true∧((Rows.planStreamsRow.maps==(Tryz.f5.params.toList++Rows.planStreamsSpec.plain.varTypes Tryz.pinned.checked.prog).any (fun t=>Tryz.pinned.checked.prog.mapsRec t)))=true∧((Rows.planStreamsRow.ifaces==(Tryz.f5.params.toList++Rows.planStreamsSpec.plain.varTypes Tryz.pinned.checked.prog).any (fun t=>Tryz.pinned.checked.prog.ifacesRec t)))=true∧((Rows.planStreamsRow.mapsOut==Tryz.pinned.checked.prog.mapsAmong Tryz.f5.resultTypes.toList))=true∧((Rows.planStreamsRow.loops==(Tryz.f5.params.toList++Rows.planStreamsSpec.plain.varTypes Tryz.pinned.checked.prog).any (fun t=>Tryz.pinned.checked.prog.loopsFrom t)))=true∧((Rows.planStreamsRow.wideKeys==(Tryz.f5.params.toList++Rows.planStreamsSpec.plain.varTypes Tryz.pinned.checked.prog++Tryz.f5.resultTypes.toList).any (fun t=>Tryz.pinned.checked.prog.wideKeysFrom t)))=true∧(Rows.planStreamsSpec.vars.all (fun n=>Tryz.pinned.checked.prog.varReadable n))=true∧(Tryz.f5.resultTypes.all (fun t=>Tryz.pinned.checked.prog.readableRec t&&decide (t<Tryz.pinned.checked.prog.types.size)))=true∧((Rows.planStreamsRow.ifacesOut==Tryz.f5.resultTypes.toList.any (fun t=>Tryz.pinned.checked.prog.ifacesRec t)))=true∧((Rows.planStreamsRow.loopsOut==Tryz.f5.resultTypes.toList.any (fun t=>Tryz.pinned.checked.prog.loopsFrom t)))=true:=by
 have h:((Rows.planStreamsRow.wf (OpenSpec.ofChange Rows.planStreamsSpec))&&((Tryz.f5.params.all (fun t=>Tryz.pinned.checked.prog.readableRec t))&&((namedTie Tryz.pinned.checked.prog Rows.planStreamsRow.named Rows.planStreamsSpec.vars)&&(((Rows.planStreamsRow.stops==[]))&&(((Rows.planStreamsRow.knobs==[]))&&(((Rows.planStreamsRow.maps==(Tryz.f5.params.toList++Rows.planStreamsSpec.plain.varTypes Tryz.pinned.checked.prog).any (fun t=>Tryz.pinned.checked.prog.mapsRec t)))&&(((Rows.planStreamsRow.ifaces==(Tryz.f5.params.toList++Rows.planStreamsSpec.plain.varTypes Tryz.pinned.checked.prog).any (fun t=>Tryz.pinned.checked.prog.ifacesRec t)))&&(((Rows.planStreamsRow.mapsOut==Tryz.pinned.checked.prog.mapsAmong Tryz.f5.resultTypes.toList))&&(((Rows.planStreamsRow.loops==(Tryz.f5.params.toList++Rows.planStreamsSpec.plain.varTypes Tryz.pinned.checked.prog).any (fun t=>Tryz.pinned.checked.prog.loopsFrom t)))&&(((Rows.planStreamsRow.wideKeys==(Tryz.f5.params.toList++Rows.planStreamsSpec.plain.varTypes Tryz.pinned.checked.prog++Tryz.f5.resultTypes.toList).any (fun t=>Tryz.pinned.checked.prog.wideKeysFrom t)))&&((Rows.planStreamsSpec.vars.all (fun n=>Tryz.pinned.checked.prog.varReadable n))&&((Tryz.f5.resultTypes.all (fun t=>Tryz.pinned.checked.prog.readableRec t&&decide (t<Tryz.pinned.checked.prog.types.size)))&&(((Rows.planStreamsRow.ifacesOut==Tryz.f5.resultTypes.toList.any (fun t=>Tryz.pinned.checked.prog.ifacesRec t)))&&(((Rows.planStreamsRow.loopsOut==Tryz.f5.resultTypes.toList.any (fun t=>Tryz.pinned.checked.prog.loopsFrom t)))))))))))))))))=true:=by kernel_rfl
 simpa only [Bool.and_eq_true] using h
theorem ly:((Rows.planStreamsRow.inPlace==Tryz.pinned.checked.prog.inPlace 5))=true∧((Rows.planStreamsRow.unfollowed==Tryz.pinned.checked.prog.unfollowed 5))=true∧((Rows.planStreamsRow.recurses==Tryz.pinned.checked.prog.recurses 5))=true∧((Rows.planStreamsRow.named==Tryz.pinned.checked.prog.varsNamed 5))=true:=by
 have h:(((Rows.planStreamsRow.inPlace==Tryz.pinned.checked.prog.inPlace 5))&&(((Rows.planStreamsRow.unfollowed==Tryz.pinned.checked.prog.unfollowed 5))&&(((Rows.planStreamsRow.recurses==Tryz.pinned.checked.prog.recurses 5))&&(((Rows.planStreamsRow.named==Tryz.pinned.checked.prog.varsNamed 5))))))=true:=by kernel_rfl
 simpa only [Bool.and_eq_true] using h
theorem gq:((Rows.planStreamsRow.plainKeys==Tryz.pinned.checked.prog.plainKeys))=true∧(Rows.planStreamsRow.shortTexts.isNone)=true∧((Rows.planStreamsRow.lifted==Tryz.pinned.checked.prog.liftsFinal))=true∧((Tryz.pinned.checked.prog.make==some Rows.planStreamsRow.make))=true∧((Rows.planStreamsRow.pinned==Rows.planStreamsRow.pinnedBy))=true∧((Rows.planStreamsRow.veiled==(Tryz.f5.params.toList++Rows.planStreamsSpec.plain.varTypes Tryz.pinned.checked.prog++Tryz.f5.resultTypes.toList).any (fun t=>Tryz.pinned.checked.prog.veiledRec t)))=true∧(Rows.planStreamsRow.veiledFits Tryz.pinned.checked.prog Tryz.f5.params.toList (Tryz.f5.params.toList++Rows.planStreamsSpec.plain.varTypes Tryz.pinned.checked.prog++Tryz.f5.resultTypes.toList))=true:=by
 have h:(((Rows.planStreamsRow.plainKeys==Tryz.pinned.checked.prog.plainKeys))&&((Rows.planStreamsRow.shortTexts.isNone)&&(((Rows.planStreamsRow.lifted==Tryz.pinned.checked.prog.liftsFinal))&&(((Tryz.pinned.checked.prog.make==some Rows.planStreamsRow.make))&&(((Rows.planStreamsRow.pinned==Rows.planStreamsRow.pinnedBy))&&(((Rows.planStreamsRow.veiled==(Tryz.f5.params.toList++Rows.planStreamsSpec.plain.varTypes Tryz.pinned.checked.prog++Tryz.f5.resultTypes.toList).any (fun t=>Tryz.pinned.checked.prog.veiledRec t)))&&((Rows.planStreamsRow.veiledFits Tryz.pinned.checked.prog Tryz.f5.params.toList (Tryz.f5.params.toList++Rows.planStreamsSpec.plain.varTypes Tryz.pinned.checked.prog++Tryz.f5.resultTypes.toList)))))))))=true:=by kernel_rfl
 simpa only [Bool.and_eq_true] using h
theorem rM:joinedFacts Tryz.pinned.checked.prog 5 Tryz.f5 Rows.planStreamsSpec Rows.planStreamsRow=true:=by
 unfold joinedFacts
 exact dl (dl (dl (dl (dl (dl (dl (dl (dl (dl (dl (dl (dl (dl (dl (dl (dl (dl (dl (dl (dl (dl (dl (dl (dl (dl (dl (dl (dl (dl (dl (df.1) (qJ.1)) (qJ.2.1)) (df.2.1)) (df.2.2.1)) (df.2.2.2.1)) (qJ.2.2.1)) (df.2.2.2.2.1)) (qJ.2.2.2.1)) (ly.1)) (ly.2.1)) (ly.2.2.1)) (ly.2.2.2)) (df.2.2.2.2.2.1)) (df.2.2.2.2.2.2.1)) (df.2.2.2.2.2.2.2.1)) (df.2.2.2.2.2.2.2.2.1)) (df.2.2.2.2.2.2.2.2.2.1)) (df.2.2.2.2.2.2.2.2.2.2.1)) (df.2.2.2.2.2.2.2.2.2.2.2.1)) (df.2.2.2.2.2.2.2.2.2.2.2.2.1)) (df.2.2.2.2.2.2.2.2.2.2.2.2.2)) (gq.1)) (gq.2.1)) (qJ.2.2.2.2.1)) (qJ.2.2.2.2.2)) (gq.2.2.1)) (gq.2.2.2.1)) (by kernel_rfl)) (gq.2.2.2.2.1)) (gq.2.2.2.2.2.1)) (gq.2.2.2.2.2.2)
theorem tA:Rows.PlanStreamsSaid:=
 OpenClaim.holds_of_wide 5 Tryz.f5 rfl rfl rfl rfl rfl rfl rfl ⟨rfl,rfl,rfl,rfl,rfl⟩ rfl rfl rfl rfl rfl nv Tryz.func5 rM
  (of_decide_eq_true (by kernel_rfl)) (by unfold Func.isWrapper;first|(rw [if_pos (by decide+kernel)];kernel_rfl)|(rw [if_neg (by decide+kernel)];exact⟨rfl,rfl⟩))
  (fun os started H enc _=>rL os started H enc)
theorem planStreams_card:Rows.PlanStreamsCardSaid:=
 Claim7.holds_tied_plain_at .later [] [.data,.widerDeep,.data,.pinned,.pinned] true (true, "2279216227f6392ae59b4ac39390836c23730c69cea3a1571a4ea39c3eac179e") false
  tA (fun _ h=>by cases h) (by kernel_rfl) (fun _ h=>by cases h) planStreams_row_tie rfl ⟨rfl,rfl⟩ Gr rfl
  (fun f fn hf hfn=>by
   obtain rfl:f=5:=Option.some.inj ((show Tryz.prog.funcNamed "bowsprit/bowspritlaw19.PlanStreams" =some 5 from nv).symm.trans hf)|>.symm
   obtain rfl:fn=Tryz.f5:=(Option.some.inj (Tryz.func5.symm.trans hfn)).symm
   exact⟨E2,fun j t ht=>by
    rw [Tryz.params5]at ht
    have hm:t∈[33,3]:=by simpa using Array.mem_of_getElem? ht
    have hall:([33,3].all fun u=> !Tryz.prog.wantsStandIn u)=true:=by kernel_rfl
    exact(show Tryz.prog.wantsStandIn t=false by simpa using List.all_eq_true.1 hall t hm)⟩)
  tB
#print axioms planStreams_card
end Go.Proofs.YtnmjbolollcokaaGreatDoor

