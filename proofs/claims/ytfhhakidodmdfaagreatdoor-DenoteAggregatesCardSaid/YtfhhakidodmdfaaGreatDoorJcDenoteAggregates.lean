/- di of this claim: DenoteAggregates. -/
import Derived.Test.YtfhhakidodmdfaaGreatDoorJcA0
import Derived.Test.YtfhhakidodmdfaaGreatDoorJcP23
import Derived.Test.YtfhhakidodmdfaaGreatDoorJcJX
import Derived.Test.YtfhhakidodmdfaaGreatDoorTie
import Derived.Test.YtfhhakidodmdfaaGreatDoorCards
import Derived.SevenTiedAt
set_option linter.all false
namespace Go.Proofs.YtfhhakidodmdfaaGreatDoor
open Go Go.ChangeShapes Go.WideShapes Go.ChangeAt Go.RowKit

set_option maxRecDepth 100000 in
theorem vO(os:Os)(started:os.Started)(H:Type)(enc:TypeId×Value→H):
  ReturnsInHanded {} Tryz.checked os 5 .any (fun w args=>(Rows.denoteAggregatesSpec.pre enc Tryz.prog Tryz.f5 [] false w args∧laidMetH Tryz.prog KG w)∧sizedMet enc Tryz.prog Tryz.f5 (OpenSpec.ofChange Rows.denoteAggregatesSpec) false w args)
   (Rows.denoteAggregatesSpec.post enc Tryz.prog Tryz.f5 false true false false):=by
 refine returnsInHanded_of_change_and (C:=Tryz.checked) (X:=fun w _=>laidMetH Tryz.prog KG w) (fun _ _ _ hh h=>h.of_heap hh) Yj started (by kernel_rfl) Tryz.func5
  (ChangeSpec.witness_shaped (enc:=enc) (C:=Tryz.checked) (os:=os) (X:=fun w _=>laidMetH Tryz.prog KG w) false (World.doorLaid Tryz.prog 400 os) #[.agg #[.int .i64 0,.slice none 0 0],.slice none 0 0] 8 rfl (World.shaped_of_RefB (by kernel_rfl) (by kernel_rfl)) (by kernel_rfl) (by kernel_rfl) (by kernel_rfl) (SN os _)) ?_
 intro W base args ds gs before hval0 hW hcnd _ hL _
 have hval: ∀(j:Nat) t v,Tryz.f5.params[j]? =some t→args[j]? =some v→Value.okWide Tryz.prog W .any base t v:=hval0
 have hW' :=hW
 obtain⟨p,q,hA0,hV,hbf,hfz,hnd⟩:=hW
 have hA:DataW.TrodAll enc Tryz.prog W 0 (fun _=>true) true Tryz.f5.params.toList args.toList ds p:=hA0
 have hgs:gs=[]:=by
  cases gs with
  |nil=>rfl
  |cons g gs=>exact hV.elim
 rw [Tryz.params5]at hA hval
 obtain⟨v0,v1,d0,d1,p0,p1,hargs,hds,hps,h0,h1⟩:=trodAll_two hA
 obtain⟨a0,ha0,ho0⟩:=Wt (ZI enc W) Ua rfl h0 (Jc Tryz.underlying51 (hval 0 51 v0 rfl (by rw [hargs];rfl)))
 obtain⟨a1,ha1,ho1⟩:=Ws (ZN enc W) (MG (MG GX)) rfl h1 (Lq Tryz.underlying32 (hval 1 32 v1 rfl (by rw [hargs];rfl)))
 have hcall:=aak a0 a1 (wL a0 ho0 a1 ho1) W (Gm W) [v0,v1] (Ye W (Qp hL) (fun _ _=>trivial)) ⟨ha0,ha1,trivial⟩
 have hargs' :args=[v0,v1].toArray:=hargs
 rw [←hargs']at hcall
 refine hcall.mono fun e W' ⟨v,S',he,hext,_,hv⟩=>⟨v,he,?_⟩
 rw [jb.1 hv]
 exact RR (tb:=4) Ur (by rw [Tryz.params5];decide+kernel) rfl rfl Tryz.underlying4 hW' (by rw [hgs,hds];rfl) (Jd hext)
theorem qB:Tryz.pinned.checked.prog.funcNamed Rows.denoteAggregatesRow.func=some 5:=by kernel_rfl
theorem xj:false=Rows.denoteAggregatesRow.goesBy Tryz.pinned.checked.prog:=by kernel_rfl
theorem db:(Rows.denoteAggregatesRow.wf (OpenSpec.ofChange Rows.denoteAggregatesSpec))=true∧(Tryz.f5.params.all (fun t=>Tryz.pinned.checked.prog.readableRec t))=true∧(namedTie Tryz.pinned.checked.prog Rows.denoteAggregatesRow.named Rows.denoteAggregatesSpec.vars)=true∧((Rows.denoteAggregatesRow.stops==[]))=true∧((Rows.denoteAggregatesRow.knobs==[]))=true∧((Rows.denoteAggregatesRow.maps==(Tryz.f5.params.toList++Rows.denoteAggregatesSpec.plain.varTypes Tryz.pinned.checked.prog).any (fun t=>Tryz.pinned.checked.prog.mapsRec t)))=true∧((Rows.denoteAggregatesRow.ifaces==(Tryz.f5.params.toList++Rows.denoteAggregatesSpec.plain.varTypes Tryz.pinned.checked.prog).any (fun t=>Tryz.pinned.checked.prog.ifacesRec t)))=true∧((Rows.denoteAggregatesRow.mapsOut==Tryz.pinned.checked.prog.mapsAmong Tryz.f5.resultTypes.toList))=true∧((Rows.denoteAggregatesRow.loops==(Tryz.f5.params.toList++Rows.denoteAggregatesSpec.plain.varTypes Tryz.pinned.checked.prog).any (fun t=>Tryz.pinned.checked.prog.loopsFrom t)))=true∧((Rows.denoteAggregatesRow.wideKeys==(Tryz.f5.params.toList++Rows.denoteAggregatesSpec.plain.varTypes Tryz.pinned.checked.prog++Tryz.f5.resultTypes.toList).any (fun t=>Tryz.pinned.checked.prog.wideKeysFrom t)))=true∧(Rows.denoteAggregatesSpec.vars.all (fun n=>Tryz.pinned.checked.prog.varReadable n))=true∧(Tryz.f5.resultTypes.all (fun t=>Tryz.pinned.checked.prog.readableRec t&&decide (t<Tryz.pinned.checked.prog.types.size)))=true∧((Rows.denoteAggregatesRow.ifacesOut==Tryz.f5.resultTypes.toList.any (fun t=>Tryz.pinned.checked.prog.ifacesRec t)))=true∧((Rows.denoteAggregatesRow.loopsOut==Tryz.f5.resultTypes.toList.any (fun t=>Tryz.pinned.checked.prog.loopsFrom t)))=true:=by
 have h:((Rows.denoteAggregatesRow.wf (OpenSpec.ofChange Rows.denoteAggregatesSpec))&&((Tryz.f5.params.all (fun t=>Tryz.pinned.checked.prog.readableRec t))&&((namedTie Tryz.pinned.checked.prog Rows.denoteAggregatesRow.named Rows.denoteAggregatesSpec.vars)&&(((Rows.denoteAggregatesRow.stops==[]))&&(((Rows.denoteAggregatesRow.knobs==[]))&&(((Rows.denoteAggregatesRow.maps==(Tryz.f5.params.toList++Rows.denoteAggregatesSpec.plain.varTypes Tryz.pinned.checked.prog).any (fun t=>Tryz.pinned.checked.prog.mapsRec t)))&&(((Rows.denoteAggregatesRow.ifaces==(Tryz.f5.params.toList++Rows.denoteAggregatesSpec.plain.varTypes Tryz.pinned.checked.prog).any (fun t=>Tryz.pinned.checked.prog.ifacesRec t)))&&(((Rows.denoteAggregatesRow.mapsOut==Tryz.pinned.checked.prog.mapsAmong Tryz.f5.resultTypes.toList))&&(((Rows.denoteAggregatesRow.loops==(Tryz.f5.params.toList++Rows.denoteAggregatesSpec.plain.varTypes Tryz.pinned.checked.prog).any (fun t=>Tryz.pinned.checked.prog.loopsFrom t)))&&(((Rows.denoteAggregatesRow.wideKeys==(Tryz.f5.params.toList++Rows.denoteAggregatesSpec.plain.varTypes Tryz.pinned.checked.prog++Tryz.f5.resultTypes.toList).any (fun t=>Tryz.pinned.checked.prog.wideKeysFrom t)))&&((Rows.denoteAggregatesSpec.vars.all (fun n=>Tryz.pinned.checked.prog.varReadable n))&&((Tryz.f5.resultTypes.all (fun t=>Tryz.pinned.checked.prog.readableRec t&&decide (t<Tryz.pinned.checked.prog.types.size)))&&(((Rows.denoteAggregatesRow.ifacesOut==Tryz.f5.resultTypes.toList.any (fun t=>Tryz.pinned.checked.prog.ifacesRec t)))&&(((Rows.denoteAggregatesRow.loopsOut==Tryz.f5.resultTypes.toList.any (fun t=>Tryz.pinned.checked.prog.loopsFrom t)))))))))))))))))=true:=by kernel_rfl
 simpa only [Bool.and_eq_true] using h
theorem m5:((Rows.denoteAggregatesRow.inPlace==Tryz.pinned.checked.prog.inPlace 5))=true∧((Rows.denoteAggregatesRow.unfollowed==Tryz.pinned.checked.prog.unfollowed 5))=true∧((Rows.denoteAggregatesRow.recurses==Tryz.pinned.checked.prog.recurses 5))=true∧((Rows.denoteAggregatesRow.named==Tryz.pinned.checked.prog.varsNamed 5))=true:=by
 have h:(((Rows.denoteAggregatesRow.inPlace==Tryz.pinned.checked.prog.inPlace 5))&&(((Rows.denoteAggregatesRow.unfollowed==Tryz.pinned.checked.prog.unfollowed 5))&&(((Rows.denoteAggregatesRow.recurses==Tryz.pinned.checked.prog.recurses 5))&&(((Rows.denoteAggregatesRow.named==Tryz.pinned.checked.prog.varsNamed 5))))))=true:=by kernel_rfl
 simpa only [Bool.and_eq_true] using h
theorem ie:((Rows.denoteAggregatesRow.plainKeys==Tryz.pinned.checked.prog.plainKeys))=true∧(Rows.denoteAggregatesRow.shortTexts.isNone)=true∧((Rows.denoteAggregatesRow.lifted==Tryz.pinned.checked.prog.liftsFinal))=true∧((Tryz.pinned.checked.prog.make==some Rows.denoteAggregatesRow.make))=true∧((Rows.denoteAggregatesRow.pinned==Rows.denoteAggregatesRow.pinnedBy))=true∧((Rows.denoteAggregatesRow.veiled==(Tryz.f5.params.toList++Rows.denoteAggregatesSpec.plain.varTypes Tryz.pinned.checked.prog++Tryz.f5.resultTypes.toList).any (fun t=>Tryz.pinned.checked.prog.veiledRec t)))=true∧(Rows.denoteAggregatesRow.veiledFits Tryz.pinned.checked.prog Tryz.f5.params.toList (Tryz.f5.params.toList++Rows.denoteAggregatesSpec.plain.varTypes Tryz.pinned.checked.prog++Tryz.f5.resultTypes.toList))=true:=by
 have h:(((Rows.denoteAggregatesRow.plainKeys==Tryz.pinned.checked.prog.plainKeys))&&((Rows.denoteAggregatesRow.shortTexts.isNone)&&(((Rows.denoteAggregatesRow.lifted==Tryz.pinned.checked.prog.liftsFinal))&&(((Tryz.pinned.checked.prog.make==some Rows.denoteAggregatesRow.make))&&(((Rows.denoteAggregatesRow.pinned==Rows.denoteAggregatesRow.pinnedBy))&&(((Rows.denoteAggregatesRow.veiled==(Tryz.f5.params.toList++Rows.denoteAggregatesSpec.plain.varTypes Tryz.pinned.checked.prog++Tryz.f5.resultTypes.toList).any (fun t=>Tryz.pinned.checked.prog.veiledRec t)))&&((Rows.denoteAggregatesRow.veiledFits Tryz.pinned.checked.prog Tryz.f5.params.toList (Tryz.f5.params.toList++Rows.denoteAggregatesSpec.plain.varTypes Tryz.pinned.checked.prog++Tryz.f5.resultTypes.toList)))))))))=true:=by kernel_rfl
 simpa only [Bool.and_eq_true] using h
theorem vP:joinedFacts Tryz.pinned.checked.prog 5 Tryz.f5 Rows.denoteAggregatesSpec Rows.denoteAggregatesRow=true:=by
 unfold joinedFacts
 exact fC (fC (fC (fC (fC (fC (fC (fC (fC (fC (fC (fC (fC (fC (fC (fC (fC (fC (fC (fC (fC (fC (fC (fC (fC (fC (fC (fC (fC (fC (fC (db.1) (yJ.1)) (yJ.2.1)) (db.2.1)) (db.2.2.1)) (db.2.2.2.1)) (yJ.2.2.1)) (db.2.2.2.2.1)) (yJ.2.2.2.1)) (m5.1)) (m5.2.1)) (m5.2.2.1)) (m5.2.2.2)) (db.2.2.2.2.2.1)) (db.2.2.2.2.2.2.1)) (db.2.2.2.2.2.2.2.1)) (db.2.2.2.2.2.2.2.2.1)) (db.2.2.2.2.2.2.2.2.2.1)) (db.2.2.2.2.2.2.2.2.2.2.1)) (db.2.2.2.2.2.2.2.2.2.2.2.1)) (db.2.2.2.2.2.2.2.2.2.2.2.2.1)) (db.2.2.2.2.2.2.2.2.2.2.2.2.2)) (ie.1)) (ie.2.1)) (yJ.2.2.2.2.1)) (yJ.2.2.2.2.2)) (ie.2.2.1)) (ie.2.2.2.1)) (by kernel_rfl)) (ie.2.2.2.2.1)) (ie.2.2.2.2.2.1)) (ie.2.2.2.2.2.2)
theorem xi:Rows.DenoteAggregatesSaid:=
 OpenClaim.holds_of_wide 5 Tryz.f5 rfl rfl rfl rfl rfl rfl rfl ⟨rfl,rfl,rfl,rfl,rfl⟩ rfl rfl rfl rfl rfl qB Tryz.func5 vP
  (of_decide_eq_true (by kernel_rfl)) (by unfold Func.isWrapper;first|(rw [if_pos (by decide+kernel)];kernel_rfl)|(rw [if_neg (by decide+kernel)];exact⟨rfl,rfl⟩))
  (fun os started H enc _=>vO os started H enc)
theorem denoteAggregates_card:Rows.DenoteAggregatesCardSaid:=
 Claim7.holds_tied_plain_at .later [] [.data] true (true, "85db28590683e9d5afa1430223a94669cccdc8a71b628dceb05087e847db95a3") false
  xi (fun _ h=>by cases h) (by kernel_rfl) (fun _ h=>by cases h) denoteAggregates_row_tie rfl ⟨rfl,rfl⟩ Ub rfl
  (fun f fn hf hfn=>by
   obtain rfl:f=5:=Option.some.inj ((show Tryz.prog.funcNamed "bowsprit/bowspritlaw15.DenoteAggregates" =some 5 from qB).symm.trans hf)|>.symm
   obtain rfl:fn=Tryz.f5:=(Option.some.inj (Tryz.func5.symm.trans hfn)).symm
   exact⟨Ry,fun j t ht=>by
    rw [Tryz.params5]at ht
    have hm:t∈[51,32]:=by simpa using Array.mem_of_getElem? ht
    have hall:([51,32].all fun u=> !Tryz.prog.wantsStandIn u)=true:=by kernel_rfl
    exact(show Tryz.prog.wantsStandIn t=false by simpa using List.all_eq_true.1 hall t hm)⟩)
  xj
#print axioms denoteAggregates_card
end Go.Proofs.YtfhhakidodmdfaaGreatDoor

