/- db of this claim: DenoteKinds. -/
import Derived.Test.YtfhhakidodmdfaaGreatDoorJbA0
import Derived.Test.YtfhhakidodmdfaaGreatDoorJbP22
import Derived.Test.YtfhhakidodmdfaaGreatDoorJbJX
import Derived.Test.YtfhhakidodmdfaaGreatDoorTie
import Derived.Test.YtfhhakidodmdfaaGreatDoorCards
import Derived.SevenTiedAt
set_option linter.all false
namespace Go.Proofs.YtfhhakidodmdfaaGreatDoor
open Go Go.ChangeShapes Go.WideShapes Go.ChangeAt Go.RowKit

set_option maxRecDepth 100000 in
theorem zO(os:Os)(started:os.Started)(H:Type)(enc:TypeId×Value→H):
  ReturnsInHanded {} Tryz.checked os 4 .any (fun w args=>(Rows.denoteKindsSpec.pre enc Tryz.prog Tryz.f4 [] false w args∧laidMetH Tryz.prog Ke w)∧sizedMet enc Tryz.prog Tryz.f4 (OpenSpec.ofChange Rows.denoteKindsSpec) false w args)
   (Rows.denoteKindsSpec.post enc Tryz.prog Tryz.f4 false true false false):=by
 refine returnsInHanded_of_change_and (C:=Tryz.checked) (X:=fun w _=>laidMetH Tryz.prog Ke w) (fun _ _ _ hh h=>h.of_heap hh) Xy started (by kernel_rfl) Tryz.func4
  (ChangeSpec.witness_shaped (enc:=enc) (C:=Tryz.checked) (os:=os) (X:=fun w _=>laidMetH Tryz.prog Ke w) false (World.doorLaid Tryz.prog 400 os) #[.agg #[.slice none 0 0],.agg #[.slice none 0 0]] 8 rfl (World.shaped_of_RefB (by kernel_rfl) (by kernel_rfl)) (by kernel_rfl) (by kernel_rfl) (by kernel_rfl) (Sa os _)) ?_
 intro W base args ds gs before hval0 hW hcnd _ hL _
 have hval: ∀(j:Nat) t v,Tryz.f4.params[j]? =some t→args[j]? =some v→Value.okWide Tryz.prog W .any base t v:=hval0
 have hW' :=hW
 obtain⟨p,q,hA0,hV,hbf,hfz,hnd⟩:=hW
 have hA:DataW.TrodAll enc Tryz.prog W 0 (fun _=>true) true Tryz.f4.params.toList args.toList ds p:=hA0
 have hgs:gs=[]:=by
  cases gs with
  |nil=>rfl
  |cons g gs=>exact hV.elim
 rw [Tryz.params4]at hA hval
 obtain⟨v0,v1,d0,d1,p0,p1,hargs,hds,hps,h0,h1⟩:=trodAll_two hA
 obtain⟨a0,ha0,ho0⟩:=OL (Zd enc W) Pf rfl h0 (Bg Tryz.underlying24 (hval 0 24 v0 rfl (by rw [hargs];rfl)))
 obtain⟨a1,ha1,ho1⟩:=OL (Zb enc W) QP rfl h1 (Bg Tryz.underlying27 (hval 1 27 v1 rfl (by rw [hargs];rfl)))
 have hcall:=ZU a0 a1 (Bc a0 ho0 a1 ho1) W (Kc W) [v0,v1] (Xt W (Pz hL) (fun _ _=>trivial)) ⟨ha0,ha1,trivial⟩
 have hargs' :args=[v0,v1].toArray:=hargs
 rw [←hargs']at hcall
 refine hcall.mono fun e W' ⟨v,S',he,hext,_,hv⟩=>⟨v,he,?_⟩
 rw [iL.1 hv]
 exact Rg (tb:=4) TW (by rw [Tryz.params4];decide+kernel) rfl rfl Tryz.underlying4 hW' (by rw [hgs,hds];rfl) (IG hext)
theorem uh:Tryz.pinned.checked.prog.funcNamed Rows.denoteKindsRow.func=some 4:=by kernel_rfl
theorem B6:false=Rows.denoteKindsRow.goesBy Tryz.pinned.checked.prog:=by kernel_rfl
theorem eI:(Rows.denoteKindsRow.wf (OpenSpec.ofChange Rows.denoteKindsSpec))=true∧(Tryz.f4.params.all (fun t=>Tryz.pinned.checked.prog.readableRec t))=true∧(namedTie Tryz.pinned.checked.prog Rows.denoteKindsRow.named Rows.denoteKindsSpec.vars)=true∧((Rows.denoteKindsRow.stops==[]))=true∧((Rows.denoteKindsRow.knobs==[]))=true∧((Rows.denoteKindsRow.maps==(Tryz.f4.params.toList++Rows.denoteKindsSpec.plain.varTypes Tryz.pinned.checked.prog).any (fun t=>Tryz.pinned.checked.prog.mapsRec t)))=true∧((Rows.denoteKindsRow.ifaces==(Tryz.f4.params.toList++Rows.denoteKindsSpec.plain.varTypes Tryz.pinned.checked.prog).any (fun t=>Tryz.pinned.checked.prog.ifacesRec t)))=true∧((Rows.denoteKindsRow.mapsOut==Tryz.pinned.checked.prog.mapsAmong Tryz.f4.resultTypes.toList))=true∧((Rows.denoteKindsRow.loops==(Tryz.f4.params.toList++Rows.denoteKindsSpec.plain.varTypes Tryz.pinned.checked.prog).any (fun t=>Tryz.pinned.checked.prog.loopsFrom t)))=true∧((Rows.denoteKindsRow.wideKeys==(Tryz.f4.params.toList++Rows.denoteKindsSpec.plain.varTypes Tryz.pinned.checked.prog++Tryz.f4.resultTypes.toList).any (fun t=>Tryz.pinned.checked.prog.wideKeysFrom t)))=true∧(Rows.denoteKindsSpec.vars.all (fun n=>Tryz.pinned.checked.prog.varReadable n))=true∧(Tryz.f4.resultTypes.all (fun t=>Tryz.pinned.checked.prog.readableRec t&&decide (t<Tryz.pinned.checked.prog.types.size)))=true∧((Rows.denoteKindsRow.ifacesOut==Tryz.f4.resultTypes.toList.any (fun t=>Tryz.pinned.checked.prog.ifacesRec t)))=true∧((Rows.denoteKindsRow.loopsOut==Tryz.f4.resultTypes.toList.any (fun t=>Tryz.pinned.checked.prog.loopsFrom t)))=true:=by
 have h:((Rows.denoteKindsRow.wf (OpenSpec.ofChange Rows.denoteKindsSpec))&&((Tryz.f4.params.all (fun t=>Tryz.pinned.checked.prog.readableRec t))&&((namedTie Tryz.pinned.checked.prog Rows.denoteKindsRow.named Rows.denoteKindsSpec.vars)&&(((Rows.denoteKindsRow.stops==[]))&&(((Rows.denoteKindsRow.knobs==[]))&&(((Rows.denoteKindsRow.maps==(Tryz.f4.params.toList++Rows.denoteKindsSpec.plain.varTypes Tryz.pinned.checked.prog).any (fun t=>Tryz.pinned.checked.prog.mapsRec t)))&&(((Rows.denoteKindsRow.ifaces==(Tryz.f4.params.toList++Rows.denoteKindsSpec.plain.varTypes Tryz.pinned.checked.prog).any (fun t=>Tryz.pinned.checked.prog.ifacesRec t)))&&(((Rows.denoteKindsRow.mapsOut==Tryz.pinned.checked.prog.mapsAmong Tryz.f4.resultTypes.toList))&&(((Rows.denoteKindsRow.loops==(Tryz.f4.params.toList++Rows.denoteKindsSpec.plain.varTypes Tryz.pinned.checked.prog).any (fun t=>Tryz.pinned.checked.prog.loopsFrom t)))&&(((Rows.denoteKindsRow.wideKeys==(Tryz.f4.params.toList++Rows.denoteKindsSpec.plain.varTypes Tryz.pinned.checked.prog++Tryz.f4.resultTypes.toList).any (fun t=>Tryz.pinned.checked.prog.wideKeysFrom t)))&&((Rows.denoteKindsSpec.vars.all (fun n=>Tryz.pinned.checked.prog.varReadable n))&&((Tryz.f4.resultTypes.all (fun t=>Tryz.pinned.checked.prog.readableRec t&&decide (t<Tryz.pinned.checked.prog.types.size)))&&(((Rows.denoteKindsRow.ifacesOut==Tryz.f4.resultTypes.toList.any (fun t=>Tryz.pinned.checked.prog.ifacesRec t)))&&(((Rows.denoteKindsRow.loopsOut==Tryz.f4.resultTypes.toList.any (fun t=>Tryz.pinned.checked.prog.loopsFrom t)))))))))))))))))=true:=by kernel_rfl
 simpa only [Bool.and_eq_true] using h
theorem qW:((Rows.denoteKindsRow.inPlace==Tryz.pinned.checked.prog.inPlace 4))=true∧((Rows.denoteKindsRow.unfollowed==Tryz.pinned.checked.prog.unfollowed 4))=true∧((Rows.denoteKindsRow.recurses==Tryz.pinned.checked.prog.recurses 4))=true∧((Rows.denoteKindsRow.named==Tryz.pinned.checked.prog.varsNamed 4))=true:=by
 have h:(((Rows.denoteKindsRow.inPlace==Tryz.pinned.checked.prog.inPlace 4))&&(((Rows.denoteKindsRow.unfollowed==Tryz.pinned.checked.prog.unfollowed 4))&&(((Rows.denoteKindsRow.recurses==Tryz.pinned.checked.prog.recurses 4))&&(((Rows.denoteKindsRow.named==Tryz.pinned.checked.prog.varsNamed 4))))))=true:=by kernel_rfl
 simpa only [Bool.and_eq_true] using h
theorem lw:((Rows.denoteKindsRow.plainKeys==Tryz.pinned.checked.prog.plainKeys))=true∧(Rows.denoteKindsRow.shortTexts.isNone)=true∧((Rows.denoteKindsRow.lifted==Tryz.pinned.checked.prog.liftsFinal))=true∧((Tryz.pinned.checked.prog.make==some Rows.denoteKindsRow.make))=true∧((Rows.denoteKindsRow.pinned==Rows.denoteKindsRow.pinnedBy))=true∧((Rows.denoteKindsRow.veiled==(Tryz.f4.params.toList++Rows.denoteKindsSpec.plain.varTypes Tryz.pinned.checked.prog++Tryz.f4.resultTypes.toList).any (fun t=>Tryz.pinned.checked.prog.veiledRec t)))=true∧(Rows.denoteKindsRow.veiledFits Tryz.pinned.checked.prog Tryz.f4.params.toList (Tryz.f4.params.toList++Rows.denoteKindsSpec.plain.varTypes Tryz.pinned.checked.prog++Tryz.f4.resultTypes.toList))=true:=by
 have h:(((Rows.denoteKindsRow.plainKeys==Tryz.pinned.checked.prog.plainKeys))&&((Rows.denoteKindsRow.shortTexts.isNone)&&(((Rows.denoteKindsRow.lifted==Tryz.pinned.checked.prog.liftsFinal))&&(((Tryz.pinned.checked.prog.make==some Rows.denoteKindsRow.make))&&(((Rows.denoteKindsRow.pinned==Rows.denoteKindsRow.pinnedBy))&&(((Rows.denoteKindsRow.veiled==(Tryz.f4.params.toList++Rows.denoteKindsSpec.plain.varTypes Tryz.pinned.checked.prog++Tryz.f4.resultTypes.toList).any (fun t=>Tryz.pinned.checked.prog.veiledRec t)))&&((Rows.denoteKindsRow.veiledFits Tryz.pinned.checked.prog Tryz.f4.params.toList (Tryz.f4.params.toList++Rows.denoteKindsSpec.plain.varTypes Tryz.pinned.checked.prog++Tryz.f4.resultTypes.toList)))))))))=true:=by kernel_rfl
 simpa only [Bool.and_eq_true] using h
theorem zP:joinedFacts Tryz.pinned.checked.prog 4 Tryz.f4 Rows.denoteKindsSpec Rows.denoteKindsRow=true:=by
 unfold joinedFacts
 exact fa (fa (fa (fa (fa (fa (fa (fa (fa (fa (fa (fa (fa (fa (fa (fa (fa (fa (fa (fa (fa (fa (fa (fa (fa (fa (fa (fa (fa (fa (fa (eI.1) (xS.1)) (xS.2.1)) (eI.2.1)) (eI.2.2.1)) (eI.2.2.2.1)) (xS.2.2.1)) (eI.2.2.2.2.1)) (xS.2.2.2.1)) (qW.1)) (qW.2.1)) (qW.2.2.1)) (qW.2.2.2)) (eI.2.2.2.2.2.1)) (eI.2.2.2.2.2.2.1)) (eI.2.2.2.2.2.2.2.1)) (eI.2.2.2.2.2.2.2.2.1)) (eI.2.2.2.2.2.2.2.2.2.1)) (eI.2.2.2.2.2.2.2.2.2.2.1)) (eI.2.2.2.2.2.2.2.2.2.2.2.1)) (eI.2.2.2.2.2.2.2.2.2.2.2.2.1)) (eI.2.2.2.2.2.2.2.2.2.2.2.2.2)) (lw.1)) (lw.2.1)) (xS.2.2.2.2.1)) (xS.2.2.2.2.2)) (lw.2.2.1)) (lw.2.2.2.1)) (by kernel_rfl)) (lw.2.2.2.2.1)) (lw.2.2.2.2.2.1)) (lw.2.2.2.2.2.2)
theorem B5:Rows.DenoteKindsSaid:=
 OpenClaim.holds_of_wide 4 Tryz.f4 rfl rfl rfl rfl rfl rfl rfl ⟨rfl,rfl,rfl,rfl,rfl⟩ rfl rfl rfl rfl rfl uh Tryz.func4 zP
  (of_decide_eq_true (by kernel_rfl)) (by unfold Func.isWrapper;first|(rw [if_pos (by decide+kernel)];kernel_rfl)|(rw [if_neg (by decide+kernel)];exact⟨rfl,rfl⟩))
  (fun os started H enc _=>zO os started H enc)
theorem denoteKinds_card:Rows.DenoteKindsCardSaid:=
 Claim7.holds_tied_plain_at .later [] [.data] true (true, "85db28590683e9d5afa1430223a94669cccdc8a71b628dceb05087e847db95a3") false
  B5 (fun _ h=>by cases h) (by kernel_rfl) (fun _ h=>by cases h) denoteKinds_row_tie rfl ⟨rfl,rfl⟩ Tt rfl
  (fun f fn hf hfn=>by
   obtain rfl:f=4:=Option.some.inj ((show Tryz.prog.funcNamed "bowsprit/bowspritlaw15.DenoteKinds" =some 4 from uh).symm.trans hf)|>.symm
   obtain rfl:fn=Tryz.f4:=(Option.some.inj (Tryz.func4.symm.trans hfn)).symm
   exact⟨QT,fun j t ht=>by
    rw [Tryz.params4]at ht
    have hm:t∈[24,27]:=by simpa using Array.mem_of_getElem? ht
    have hall:([24,27].all fun u=> !Tryz.prog.wantsStandIn u)=true:=by kernel_rfl
    exact(show Tryz.prog.wantsStandIn t=false by simpa using List.all_eq_true.1 hall t hm)⟩)
  B6
#print axioms denoteKinds_card
end Go.Proofs.YtfhhakidodmdfaaGreatDoor

