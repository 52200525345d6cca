/- cP of this claim: DenoteTwice. -/
import Derived.Test.YtfhhakidodmdfaaGreatDoorJgA0
import Derived.Test.YtfhhakidodmdfaaGreatDoorJgP25
import Derived.Test.YtfhhakidodmdfaaGreatDoorJgJY
import Derived.Test.YtfhhakidodmdfaaGreatDoorTie
import Derived.Test.YtfhhakidodmdfaaGreatDoorCards
import Derived.SevenTiedAt
set_option linter.all false
namespace Go.Proofs.YtfhhakidodmdfaaGreatDoor
open Go Go.ChangeShapes Go.WideShapes Go.ChangeAt Go.RowKit

set_option maxRecDepth 100000 in
theorem An(os:Os)(started:os.Started)(H:Type)(enc:TypeId×Value→H):
  ReturnsInHanded {} Tryz.checked os 9 .any (fun w args=>(Rows.denoteTwiceSpec.pre enc Tryz.prog Tryz.f9 [] false w args∧laidMetH Tryz.prog KG w)∧sizedMet enc Tryz.prog Tryz.f9 (OpenSpec.ofChange Rows.denoteTwiceSpec) false w args)
   (Rows.denoteTwiceSpec.post enc Tryz.prog Tryz.f9 false true false false):=by
 refine returnsInHanded_of_change_and (C:=Tryz.checked) (X:=fun w _=>laidMetH Tryz.prog KG w) (fun _ _ _ hh h=>h.of_heap hh) XX started (by kernel_rfl) Tryz.func9
  (ChangeSpec.witness_shaped (enc:=enc) (C:=Tryz.checked) (os:=os) (X:=fun w _=>laidMetH Tryz.prog KG w) false (World.doorLaid Tryz.prog 400 os) #[.agg #[.slice none 0 0],.agg #[.slice none 0 0]] 8 rfl (World.shaped_of_RefB (by kernel_rfl) (by kernel_rfl)) (by kernel_rfl) (by kernel_rfl) (by kernel_rfl) (Sv os _)) ?_
 intro W base args ds gs before hval0 hW hcnd _ hL _
 have hval: ∀(j:Nat) t v,Tryz.f9.params[j]? =some t→args[j]? =some v→Value.okWide Tryz.prog W .any base t v:=hval0
 have hW' :=hW
 obtain⟨p,q,hA0,hV,hbf,hfz,hnd⟩:=hW
 have hA:DataW.TrodAll enc Tryz.prog W 0 (fun _=>true) true Tryz.f9.params.toList args.toList ds p:=hA0
 have hgs:gs=[]:=by
  cases gs with
  |nil=>rfl
  |cons g gs=>exact hV.elim
 rw [Tryz.params9]at hA hval
 obtain⟨v0,v1,d0,d1,p0,p1,hargs,hds,hps,h0,h1⟩:=trodAll_two hA
 obtain⟨a0,ha0,ho0⟩:=Pd (ZC enc W) PG rfl h0 (BI Tryz.underlying24 (hval 0 24 v0 rfl (by rw [hargs];rfl)))
 obtain⟨a1,ha1,ho1⟩:=Pd (ZA enc W) Re rfl h1 (BI Tryz.underlying27 (hval 1 27 v1 rfl (by rw [hargs];rfl)))
 have hcall:=Z8 a0 a1 (BE a0 ho0 a1 ho1) W (KC W) [v0,v1] (XR W (Qa hL) (fun _ _=>trivial)) ⟨ha0,ha1,trivial⟩
 have hargs' :args=[v0,v1].toArray:=hargs
 rw [←hargs']at hcall
 refine hcall.mono fun e W' ⟨v,S',he,hext,_,hv⟩=>⟨v,he,?_⟩
 rw [iO.1 hv]
 exact RD (tb:=4) Ul (by rw [Tryz.params9];decide+kernel) rfl rfl Tryz.underlying4 hW' (by rw [hgs,hds];rfl) (Jc hext)
theorem uI:Tryz.pinned.checked.prog.funcNamed Rows.denoteTwiceRow.func=some 9:=by kernel_rfl
theorem Cw:false=Rows.denoteTwiceRow.goesBy Tryz.pinned.checked.prog:=by kernel_rfl
theorem eD:(Rows.denoteTwiceRow.wf (OpenSpec.ofChange Rows.denoteTwiceSpec))=true∧(Tryz.f9.params.all (fun t=>Tryz.pinned.checked.prog.readableRec t))=true∧(namedTie Tryz.pinned.checked.prog Rows.denoteTwiceRow.named Rows.denoteTwiceSpec.vars)=true∧((Rows.denoteTwiceRow.stops==[]))=true∧((Rows.denoteTwiceRow.knobs==[]))=true∧((Rows.denoteTwiceRow.maps==(Tryz.f9.params.toList++Rows.denoteTwiceSpec.plain.varTypes Tryz.pinned.checked.prog).any (fun t=>Tryz.pinned.checked.prog.mapsRec t)))=true∧((Rows.denoteTwiceRow.ifaces==(Tryz.f9.params.toList++Rows.denoteTwiceSpec.plain.varTypes Tryz.pinned.checked.prog).any (fun t=>Tryz.pinned.checked.prog.ifacesRec t)))=true∧((Rows.denoteTwiceRow.mapsOut==Tryz.pinned.checked.prog.mapsAmong Tryz.f9.resultTypes.toList))=true∧((Rows.denoteTwiceRow.loops==(Tryz.f9.params.toList++Rows.denoteTwiceSpec.plain.varTypes Tryz.pinned.checked.prog).any (fun t=>Tryz.pinned.checked.prog.loopsFrom t)))=true∧((Rows.denoteTwiceRow.wideKeys==(Tryz.f9.params.toList++Rows.denoteTwiceSpec.plain.varTypes Tryz.pinned.checked.prog++Tryz.f9.resultTypes.toList).any (fun t=>Tryz.pinned.checked.prog.wideKeysFrom t)))=true∧(Rows.denoteTwiceSpec.vars.all (fun n=>Tryz.pinned.checked.prog.varReadable n))=true∧(Tryz.f9.resultTypes.all (fun t=>Tryz.pinned.checked.prog.readableRec t&&decide (t<Tryz.pinned.checked.prog.types.size)))=true∧((Rows.denoteTwiceRow.ifacesOut==Tryz.f9.resultTypes.toList.any (fun t=>Tryz.pinned.checked.prog.ifacesRec t)))=true∧((Rows.denoteTwiceRow.loopsOut==Tryz.f9.resultTypes.toList.any (fun t=>Tryz.pinned.checked.prog.loopsFrom t)))=true:=by
 have h:((Rows.denoteTwiceRow.wf (OpenSpec.ofChange Rows.denoteTwiceSpec))&&((Tryz.f9.params.all (fun t=>Tryz.pinned.checked.prog.readableRec t))&&((namedTie Tryz.pinned.checked.prog Rows.denoteTwiceRow.named Rows.denoteTwiceSpec.vars)&&(((Rows.denoteTwiceRow.stops==[]))&&(((Rows.denoteTwiceRow.knobs==[]))&&(((Rows.denoteTwiceRow.maps==(Tryz.f9.params.toList++Rows.denoteTwiceSpec.plain.varTypes Tryz.pinned.checked.prog).any (fun t=>Tryz.pinned.checked.prog.mapsRec t)))&&(((Rows.denoteTwiceRow.ifaces==(Tryz.f9.params.toList++Rows.denoteTwiceSpec.plain.varTypes Tryz.pinned.checked.prog).any (fun t=>Tryz.pinned.checked.prog.ifacesRec t)))&&(((Rows.denoteTwiceRow.mapsOut==Tryz.pinned.checked.prog.mapsAmong Tryz.f9.resultTypes.toList))&&(((Rows.denoteTwiceRow.loops==(Tryz.f9.params.toList++Rows.denoteTwiceSpec.plain.varTypes Tryz.pinned.checked.prog).any (fun t=>Tryz.pinned.checked.prog.loopsFrom t)))&&(((Rows.denoteTwiceRow.wideKeys==(Tryz.f9.params.toList++Rows.denoteTwiceSpec.plain.varTypes Tryz.pinned.checked.prog++Tryz.f9.resultTypes.toList).any (fun t=>Tryz.pinned.checked.prog.wideKeysFrom t)))&&((Rows.denoteTwiceSpec.vars.all (fun n=>Tryz.pinned.checked.prog.varReadable n))&&((Tryz.f9.resultTypes.all (fun t=>Tryz.pinned.checked.prog.readableRec t&&decide (t<Tryz.pinned.checked.prog.types.size)))&&(((Rows.denoteTwiceRow.ifacesOut==Tryz.f9.resultTypes.toList.any (fun t=>Tryz.pinned.checked.prog.ifacesRec t)))&&(((Rows.denoteTwiceRow.loopsOut==Tryz.f9.resultTypes.toList.any (fun t=>Tryz.pinned.checked.prog.loopsFrom t)))))))))))))))))=true:=by kernel_rfl
 simpa only [Bool.and_eq_true] using h
theorem rk:((Rows.denoteTwiceRow.inPlace==Tryz.pinned.checked.prog.inPlace 9))=true∧((Rows.denoteTwiceRow.unfollowed==Tryz.pinned.checked.prog.unfollowed 9))=true∧((Rows.denoteTwiceRow.recurses==Tryz.pinned.checked.prog.recurses 9))=true∧((Rows.denoteTwiceRow.named==Tryz.pinned.checked.prog.varsNamed 9))=true:=by
 have h:(((Rows.denoteTwiceRow.inPlace==Tryz.pinned.checked.prog.inPlace 9))&&(((Rows.denoteTwiceRow.unfollowed==Tryz.pinned.checked.prog.unfollowed 9))&&(((Rows.denoteTwiceRow.recurses==Tryz.pinned.checked.prog.recurses 9))&&(((Rows.denoteTwiceRow.named==Tryz.pinned.checked.prog.varsNamed 9))))))=true:=by kernel_rfl
 simpa only [Bool.and_eq_true] using h
theorem lC:((Rows.denoteTwiceRow.plainKeys==Tryz.pinned.checked.prog.plainKeys))=true∧(Rows.denoteTwiceRow.shortTexts.isNone)=true∧((Rows.denoteTwiceRow.lifted==Tryz.pinned.checked.prog.liftsFinal))=true∧((Tryz.pinned.checked.prog.make==some Rows.denoteTwiceRow.make))=true∧((Rows.denoteTwiceRow.pinned==Rows.denoteTwiceRow.pinnedBy))=true∧((Rows.denoteTwiceRow.veiled==(Tryz.f9.params.toList++Rows.denoteTwiceSpec.plain.varTypes Tryz.pinned.checked.prog++Tryz.f9.resultTypes.toList).any (fun t=>Tryz.pinned.checked.prog.veiledRec t)))=true∧(Rows.denoteTwiceRow.veiledFits Tryz.pinned.checked.prog Tryz.f9.params.toList (Tryz.f9.params.toList++Rows.denoteTwiceSpec.plain.varTypes Tryz.pinned.checked.prog++Tryz.f9.resultTypes.toList))=true:=by
 have h:(((Rows.denoteTwiceRow.plainKeys==Tryz.pinned.checked.prog.plainKeys))&&((Rows.denoteTwiceRow.shortTexts.isNone)&&(((Rows.denoteTwiceRow.lifted==Tryz.pinned.checked.prog.liftsFinal))&&(((Tryz.pinned.checked.prog.make==some Rows.denoteTwiceRow.make))&&(((Rows.denoteTwiceRow.pinned==Rows.denoteTwiceRow.pinnedBy))&&(((Rows.denoteTwiceRow.veiled==(Tryz.f9.params.toList++Rows.denoteTwiceSpec.plain.varTypes Tryz.pinned.checked.prog++Tryz.f9.resultTypes.toList).any (fun t=>Tryz.pinned.checked.prog.veiledRec t)))&&((Rows.denoteTwiceRow.veiledFits Tryz.pinned.checked.prog Tryz.f9.params.toList (Tryz.f9.params.toList++Rows.denoteTwiceSpec.plain.varTypes Tryz.pinned.checked.prog++Tryz.f9.resultTypes.toList)))))))))=true:=by kernel_rfl
 simpa only [Bool.and_eq_true] using h
theorem Ao:joinedFacts Tryz.pinned.checked.prog 9 Tryz.f9 Rows.denoteTwiceSpec Rows.denoteTwiceRow=true:=by
 unfold joinedFacts
 exact eX (eX (eX (eX (eX (eX (eX (eX (eX (eX (eX (eX (eX (eX (eX (eX (eX (eX (eX (eX (eX (eX (eX (eX (eX (eX (eX (eX (eX (eX (eX (eD.1) (yB.1)) (yB.2.1)) (eD.2.1)) (eD.2.2.1)) (eD.2.2.2.1)) (yB.2.2.1)) (eD.2.2.2.2.1)) (yB.2.2.2.1)) (rk.1)) (rk.2.1)) (rk.2.2.1)) (rk.2.2.2)) (eD.2.2.2.2.2.1)) (eD.2.2.2.2.2.2.1)) (eD.2.2.2.2.2.2.2.1)) (eD.2.2.2.2.2.2.2.2.1)) (eD.2.2.2.2.2.2.2.2.2.1)) (eD.2.2.2.2.2.2.2.2.2.2.1)) (eD.2.2.2.2.2.2.2.2.2.2.2.1)) (eD.2.2.2.2.2.2.2.2.2.2.2.2.1)) (eD.2.2.2.2.2.2.2.2.2.2.2.2.2)) (lC.1)) (lC.2.1)) (yB.2.2.2.2.1)) (yB.2.2.2.2.2)) (lC.2.2.1)) (lC.2.2.2.1)) (by kernel_rfl)) (lC.2.2.2.2.1)) (lC.2.2.2.2.2.1)) (lC.2.2.2.2.2.2)
theorem Cv:Rows.DenoteTwiceSaid:=
 OpenClaim.holds_of_wide 9 Tryz.f9 rfl rfl rfl rfl rfl rfl rfl ⟨rfl,rfl,rfl,rfl,rfl⟩ rfl rfl rfl rfl rfl uI Tryz.func9 Ao
  (of_decide_eq_true (by kernel_rfl)) (by unfold Func.isWrapper;first|(rw [if_pos (by decide+kernel)];kernel_rfl)|(rw [if_neg (by decide+kernel)];exact⟨rfl,rfl⟩))
  (fun os started H enc _=>An os started H enc)
theorem denoteTwice_card:Rows.DenoteTwiceCardSaid:=
 Claim7.holds_tied_plain_at .later [] [.data] true (true, "85db28590683e9d5afa1430223a94669cccdc8a71b628dceb05087e847db95a3") false
  Cv (fun _ h=>by cases h) (by kernel_rfl) (fun _ h=>by cases h) denoteTwice_row_tie rfl ⟨rfl,rfl⟩ TX rfl
  (fun f fn hf hfn=>by
   obtain rfl:f=9:=Option.some.inj ((show Tryz.prog.funcNamed "bowsprit/bowspritlaw15.DenoteTwice" =some 9 from uI).symm.trans hf)|>.symm
   obtain rfl:fn=Tryz.f9:=(Option.some.inj (Tryz.func9.symm.trans hfn)).symm
   exact⟨Ri,fun j t ht=>by
    rw [Tryz.params9]at ht
    have hm:t∈[24,27]:=by simpa using Array.mem_of_getElem? ht
    have hall:([24,27].all fun u=> !Tryz.prog.wantsStandIn u)=true:=by kernel_rfl
    exact(show Tryz.prog.wantsStandIn t=false by simpa using List.all_eq_true.1 hall t hm)⟩)
  Cw
#print axioms denoteTwice_card
end Go.Proofs.YtfhhakidodmdfaaGreatDoor

