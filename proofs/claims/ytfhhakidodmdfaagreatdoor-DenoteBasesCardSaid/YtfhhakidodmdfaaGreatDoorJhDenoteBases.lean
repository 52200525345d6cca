/- cX of this claim: DenoteBases. -/
import Derived.Test.YtfhhakidodmdfaaGreatDoorJhA0
import Derived.Test.YtfhhakidodmdfaaGreatDoorJhP15
import Derived.Test.YtfhhakidodmdfaaGreatDoorJhJZ
import Derived.Test.YtfhhakidodmdfaaGreatDoorTie
import Derived.Test.YtfhhakidodmdfaaGreatDoorCards
import Derived.SevenTiedAt
set_option linter.all false
namespace Go.Proofs.YtfhhakidodmdfaaGreatDoor
open Go Go.ChangeShapes Go.WideShapes Go.ChangeAt Go.RowKit

set_option maxRecDepth 100000 in
theorem tJ(os:Os)(started:os.Started)(H:Type)(enc:TypeId×Value→H):
  ReturnsInHanded {} Tryz.checked os 10 .any (fun w args=>(Rows.denoteBasesSpec.pre enc Tryz.prog Tryz.f10 [] false w args∧laidMetH Tryz.prog uw w)∧sizedMet enc Tryz.prog Tryz.f10 (OpenSpec.ofChange Rows.denoteBasesSpec) false w args)
   (Rows.denoteBasesSpec.post enc Tryz.prog Tryz.f10 false true false false):=by
 refine returnsInHanded_of_change_and (C:=Tryz.checked) (X:=fun w _=>laidMetH Tryz.prog uw w) (fun _ _ _ hh h=>h.of_heap hh) LK started (by kernel_rfl) Tryz.func10
  (ChangeSpec.witness_shaped (enc:=enc) (C:=Tryz.checked) (os:=os) (X:=fun w _=>laidMetH Tryz.prog uw w) false (World.laidAll Tryz.prog os uw) #[.agg #[.slice none 0 0],.agg #[.slice none 0 0]] 8 (World.laidAll_os _ _ _) (World.shaped_of_ZipB (by kernel_rfl) (by kernel_rfl)) (by kernel_rfl) (by kernel_rfl) (by kernel_rfl) (Hj os _)) ?_
 intro W base args ds gs before hval0 hW hcnd _ hL _
 have hval: ∀(j:Nat) t v,Tryz.f10.params[j]? =some t→args[j]? =some v→Value.okWide Tryz.prog W .any base t v:=hval0
 have hW' :=hW
 obtain⟨p,q,hA0,hV,hbf,hfz,hnd⟩:=hW
 have hA:DataW.TrodAll enc Tryz.prog W 0 (fun _=>true) true Tryz.f10.params.toList args.toList ds p:=hA0
 have hgs:gs=[]:=by
  cases gs with
  |nil=>rfl
  |cons g gs=>exact hV.elim
 rw [Tryz.params10]at hA hval
 obtain⟨v0,v1,d0,d1,p0,p1,hargs,hds,hps,h0,h1⟩:=trodAll_two hA
 obtain⟨a0,ha0,ho0⟩:=EX (MM enc W) BQ rfl h0 (uU Tryz.underlying84 (hval 0 84 v0 rfl (by rw [hargs];rfl)))
 obtain⟨a1,ha1,ho1⟩:=EX (MT enc W) Gu rfl h1 (uU Tryz.underlying27 (hval 1 27 v1 rfl (by rw [hargs];rfl)))
 have hcall:=Mx a0 a1 (uQ a0 a1) W (B6 W) [v0,v1] (LI W (FD hL) (Gl hL)) ⟨ha0,ha1,trivial⟩
 have hargs' :args=[v0,v1].toArray:=hargs
 rw [←hargs']at hcall
 refine hcall.mono fun e W' ⟨v,S',he,hext,_,hv⟩=>⟨v,he,?_⟩
 rw [eQ.1 hv]
 exact GC (tb:=4) Ij (by rw [Tryz.params10];decide+kernel) rfl rfl Tryz.underlying4 hW' (by rw [hgs,hds];rfl) (A7 hext)
theorem o7:Tryz.pinned.checked.prog.funcNamed Rows.denoteBasesRow.func=some 10:=by kernel_rfl
theorem vC:false=Rows.denoteBasesRow.goesBy Tryz.pinned.checked.prog:=by kernel_rfl
theorem dD:(Rows.denoteBasesRow.wf (OpenSpec.ofChange Rows.denoteBasesSpec))=true∧(Tryz.f10.params.all (fun t=>Tryz.pinned.checked.prog.readableRec t))=true∧(namedTie Tryz.pinned.checked.prog Rows.denoteBasesRow.named Rows.denoteBasesSpec.vars)=true∧((Rows.denoteBasesRow.stops==[]))=true∧((Rows.denoteBasesRow.knobs==[]))=true∧((Rows.denoteBasesRow.maps==(Tryz.f10.params.toList++Rows.denoteBasesSpec.plain.varTypes Tryz.pinned.checked.prog).any (fun t=>Tryz.pinned.checked.prog.mapsRec t)))=true∧((Rows.denoteBasesRow.ifaces==(Tryz.f10.params.toList++Rows.denoteBasesSpec.plain.varTypes Tryz.pinned.checked.prog).any (fun t=>Tryz.pinned.checked.prog.ifacesRec t)))=true∧((Rows.denoteBasesRow.mapsOut==Tryz.pinned.checked.prog.mapsAmong Tryz.f10.resultTypes.toList))=true∧((Rows.denoteBasesRow.loops==(Tryz.f10.params.toList++Rows.denoteBasesSpec.plain.varTypes Tryz.pinned.checked.prog).any (fun t=>Tryz.pinned.checked.prog.loopsFrom t)))=true∧((Rows.denoteBasesRow.wideKeys==(Tryz.f10.params.toList++Rows.denoteBasesSpec.plain.varTypes Tryz.pinned.checked.prog++Tryz.f10.resultTypes.toList).any (fun t=>Tryz.pinned.checked.prog.wideKeysFrom t)))=true∧(Rows.denoteBasesSpec.vars.all (fun n=>Tryz.pinned.checked.prog.varReadable n))=true∧(Tryz.f10.resultTypes.all (fun t=>Tryz.pinned.checked.prog.readableRec t&&decide (t<Tryz.pinned.checked.prog.types.size)))=true∧((Rows.denoteBasesRow.ifacesOut==Tryz.f10.resultTypes.toList.any (fun t=>Tryz.pinned.checked.prog.ifacesRec t)))=true∧((Rows.denoteBasesRow.loopsOut==Tryz.f10.resultTypes.toList.any (fun t=>Tryz.pinned.checked.prog.loopsFrom t)))=true:=by
 have h:((Rows.denoteBasesRow.wf (OpenSpec.ofChange Rows.denoteBasesSpec))&&((Tryz.f10.params.all (fun t=>Tryz.pinned.checked.prog.readableRec t))&&((namedTie Tryz.pinned.checked.prog Rows.denoteBasesRow.named Rows.denoteBasesSpec.vars)&&(((Rows.denoteBasesRow.stops==[]))&&(((Rows.denoteBasesRow.knobs==[]))&&(((Rows.denoteBasesRow.maps==(Tryz.f10.params.toList++Rows.denoteBasesSpec.plain.varTypes Tryz.pinned.checked.prog).any (fun t=>Tryz.pinned.checked.prog.mapsRec t)))&&(((Rows.denoteBasesRow.ifaces==(Tryz.f10.params.toList++Rows.denoteBasesSpec.plain.varTypes Tryz.pinned.checked.prog).any (fun t=>Tryz.pinned.checked.prog.ifacesRec t)))&&(((Rows.denoteBasesRow.mapsOut==Tryz.pinned.checked.prog.mapsAmong Tryz.f10.resultTypes.toList))&&(((Rows.denoteBasesRow.loops==(Tryz.f10.params.toList++Rows.denoteBasesSpec.plain.varTypes Tryz.pinned.checked.prog).any (fun t=>Tryz.pinned.checked.prog.loopsFrom t)))&&(((Rows.denoteBasesRow.wideKeys==(Tryz.f10.params.toList++Rows.denoteBasesSpec.plain.varTypes Tryz.pinned.checked.prog++Tryz.f10.resultTypes.toList).any (fun t=>Tryz.pinned.checked.prog.wideKeysFrom t)))&&((Rows.denoteBasesSpec.vars.all (fun n=>Tryz.pinned.checked.prog.varReadable n))&&((Tryz.f10.resultTypes.all (fun t=>Tryz.pinned.checked.prog.readableRec t&&decide (t<Tryz.pinned.checked.prog.types.size)))&&(((Rows.denoteBasesRow.ifacesOut==Tryz.f10.resultTypes.toList.any (fun t=>Tryz.pinned.checked.prog.ifacesRec t)))&&(((Rows.denoteBasesRow.loopsOut==Tryz.f10.resultTypes.toList.any (fun t=>Tryz.pinned.checked.prog.loopsFrom t)))))))))))))))))=true:=by kernel_rfl
 simpa only [Bool.and_eq_true] using h
theorem mz:((Rows.denoteBasesRow.inPlace==Tryz.pinned.checked.prog.inPlace 10))=true∧((Rows.denoteBasesRow.unfollowed==Tryz.pinned.checked.prog.unfollowed 10))=true∧((Rows.denoteBasesRow.recurses==Tryz.pinned.checked.prog.recurses 10))=true∧((Rows.denoteBasesRow.named==Tryz.pinned.checked.prog.varsNamed 10))=true:=by
 have h:(((Rows.denoteBasesRow.inPlace==Tryz.pinned.checked.prog.inPlace 10))&&(((Rows.denoteBasesRow.unfollowed==Tryz.pinned.checked.prog.unfollowed 10))&&(((Rows.denoteBasesRow.recurses==Tryz.pinned.checked.prog.recurses 10))&&(((Rows.denoteBasesRow.named==Tryz.pinned.checked.prog.varsNamed 10))))))=true:=by kernel_rfl
 simpa only [Bool.and_eq_true] using h
theorem ij:((Rows.denoteBasesRow.plainKeys==Tryz.pinned.checked.prog.plainKeys))=true∧(Rows.denoteBasesRow.shortTexts.isNone)=true∧((Rows.denoteBasesRow.lifted==Tryz.pinned.checked.prog.liftsFinal))=true∧((Tryz.pinned.checked.prog.make==some Rows.denoteBasesRow.make))=true∧((Rows.denoteBasesRow.pinned==Rows.denoteBasesRow.pinnedBy))=true∧((Rows.denoteBasesRow.veiled==(Tryz.f10.params.toList++Rows.denoteBasesSpec.plain.varTypes Tryz.pinned.checked.prog++Tryz.f10.resultTypes.toList).any (fun t=>Tryz.pinned.checked.prog.veiledRec t)))=true∧(Rows.denoteBasesRow.veiledFits Tryz.pinned.checked.prog Tryz.f10.params.toList (Tryz.f10.params.toList++Rows.denoteBasesSpec.plain.varTypes Tryz.pinned.checked.prog++Tryz.f10.resultTypes.toList))=true:=by
 have h:(((Rows.denoteBasesRow.plainKeys==Tryz.pinned.checked.prog.plainKeys))&&((Rows.denoteBasesRow.shortTexts.isNone)&&(((Rows.denoteBasesRow.lifted==Tryz.pinned.checked.prog.liftsFinal))&&(((Tryz.pinned.checked.prog.make==some Rows.denoteBasesRow.make))&&(((Rows.denoteBasesRow.pinned==Rows.denoteBasesRow.pinnedBy))&&(((Rows.denoteBasesRow.veiled==(Tryz.f10.params.toList++Rows.denoteBasesSpec.plain.varTypes Tryz.pinned.checked.prog++Tryz.f10.resultTypes.toList).any (fun t=>Tryz.pinned.checked.prog.veiledRec t)))&&((Rows.denoteBasesRow.veiledFits Tryz.pinned.checked.prog Tryz.f10.params.toList (Tryz.f10.params.toList++Rows.denoteBasesSpec.plain.varTypes Tryz.pinned.checked.prog++Tryz.f10.resultTypes.toList)))))))))=true:=by kernel_rfl
 simpa only [Bool.and_eq_true] using h
theorem tK:joinedFacts Tryz.pinned.checked.prog 10 Tryz.f10 Rows.denoteBasesSpec Rows.denoteBasesRow=true:=by
 unfold joinedFacts
 exact dL (dL (dL (dL (dL (dL (dL (dL (dL (dL (dL (dL (dL (dL (dL (dL (dL (dL (dL (dL (dL (dL (dL (dL (dL (dL (dL (dL (dL (dL (dL (dD.1) (si.1)) (si.2.1)) (dD.2.1)) (dD.2.2.1)) (dD.2.2.2.1)) (si.2.2.1)) (dD.2.2.2.2.1)) (si.2.2.2.1)) (mz.1)) (mz.2.1)) (mz.2.2.1)) (mz.2.2.2)) (dD.2.2.2.2.2.1)) (dD.2.2.2.2.2.2.1)) (dD.2.2.2.2.2.2.2.1)) (dD.2.2.2.2.2.2.2.2.1)) (dD.2.2.2.2.2.2.2.2.2.1)) (dD.2.2.2.2.2.2.2.2.2.2.1)) (dD.2.2.2.2.2.2.2.2.2.2.2.1)) (dD.2.2.2.2.2.2.2.2.2.2.2.2.1)) (dD.2.2.2.2.2.2.2.2.2.2.2.2.2)) (ij.1)) (ij.2.1)) (si.2.2.2.2.1)) (si.2.2.2.2.2)) (ij.2.2.1)) (ij.2.2.2.1)) (by kernel_rfl)) (ij.2.2.2.2.1)) (ij.2.2.2.2.2.1)) (ij.2.2.2.2.2.2)
theorem vB:Rows.DenoteBasesSaid:=
 OpenClaim.holds_of_wide 10 Tryz.f10 rfl rfl rfl rfl rfl rfl rfl ⟨rfl,rfl,rfl,rfl,rfl⟩ rfl rfl rfl rfl rfl o7 Tryz.func10 tK
  (of_decide_eq_true (by kernel_rfl)) (by unfold Func.isWrapper;first|(rw [if_pos (by decide+kernel)];kernel_rfl)|(rw [if_neg (by decide+kernel)];exact⟨rfl,rfl⟩))
  (fun os started H enc _=>tJ os started H enc)
theorem denoteBases_card:Rows.DenoteBasesCardSaid:=
 Claim7.holds_tied_plain_at .later [] [.data,.widerDeep,.data,.data,.pinned,.pinned] true (true, "85db28590683e9d5afa1430223a94669cccdc8a71b628dceb05087e847db95a3") false
  vB (fun _ h=>by cases h) (by kernel_rfl) (fun _ h=>by cases h) denoteBases_row_tie rfl ⟨rfl,rfl⟩ H5 rfl
  (fun f fn hf hfn=>by
   obtain rfl:f=10:=Option.some.inj ((show Tryz.prog.funcNamed "bowsprit/bowspritlaw15.DenoteBases" =some 10 from o7).symm.trans hf)|>.symm
   obtain rfl:fn=Tryz.f10:=(Option.some.inj (Tryz.func10.symm.trans hfn)).symm
   exact⟨Gv,fun j t ht=>by
    rw [Tryz.params10]at ht
    have hm:t∈[84,27]:=by simpa using Array.mem_of_getElem? ht
    have hall:([84,27].all fun u=> !Tryz.prog.wantsStandIn u)=true:=by kernel_rfl
    exact(show Tryz.prog.wantsStandIn t=false by simpa using List.all_eq_true.1 hall t hm)⟩)
  vC
#print axioms denoteBases_card
end Go.Proofs.YtfhhakidodmdfaaGreatDoor

