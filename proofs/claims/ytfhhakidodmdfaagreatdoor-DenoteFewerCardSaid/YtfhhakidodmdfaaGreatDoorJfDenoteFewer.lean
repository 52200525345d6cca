/- cU of this claim: DenoteFewer. -/
import Derived.Test.YtfhhakidodmdfaaGreatDoorJfA0
import Derived.Test.YtfhhakidodmdfaaGreatDoorJfP24
import Derived.Test.YtfhhakidodmdfaaGreatDoorJfJY
import Derived.Test.YtfhhakidodmdfaaGreatDoorTie
import Derived.Test.YtfhhakidodmdfaaGreatDoorCards
import Derived.SevenTiedAt
set_option linter.all false
namespace Go.Proofs.YtfhhakidodmdfaaGreatDoor
open Go Go.ChangeShapes Go.WideShapes Go.ChangeAt Go.RowKit

set_option maxRecDepth 100000 in
theorem AL(os:Os)(started:os.Started)(H:Type)(enc:TypeId×Value→H):
  ReturnsInHanded {} Tryz.checked os 8 .any (fun w args=>(Rows.denoteFewerSpec.pre enc Tryz.prog Tryz.f8 [] false w args∧laidMetH Tryz.prog Lf w)∧sizedMet enc Tryz.prog Tryz.f8 (OpenSpec.ofChange Rows.denoteFewerSpec) false w args)
   (Rows.denoteFewerSpec.post enc Tryz.prog Tryz.f8 false true false false):=by
 refine returnsInHanded_of_change_and (C:=Tryz.checked) (X:=fun w _=>laidMetH Tryz.prog Lf w) (fun _ _ _ hh h=>h.of_heap hh) Yz started (by kernel_rfl) Tryz.func8
  (ChangeSpec.witness_shaped (enc:=enc) (C:=Tryz.checked) (os:=os) (X:=fun w _=>laidMetH Tryz.prog Lf w) false (World.doorLaid Tryz.prog 400 os) #[.agg #[.slice none 0 0],.agg #[.slice none 0 0],.agg #[.int .i64 0,.int .i64 0,.int .i64 0,.int .i64 0,.slice none 0 0,.bool false,.slice none 0 0,.slice none 0 0,.slice none 0 0,.slice none 0 0,.slice none 0 0,.int .i64 0]] 8 rfl (World.shaped_of_RefB (by kernel_rfl) (by kernel_rfl)) (by kernel_rfl) (by kernel_rfl) (by kernel_rfl) (Tc os _)) ?_
 intro W base args ds gs before hval0 hW hcnd _ hL _
 have hval: ∀(j:Nat) t v,Tryz.f8.params[j]? =some t→args[j]? =some v→Value.okWide Tryz.prog W .any base t v:=hval0
 have hW' :=hW
 obtain⟨p,q,hA0,hV,hbf,hfz,hnd⟩:=hW
 have hA:DataW.TrodAll enc Tryz.prog W 0 (fun _=>true) true Tryz.f8.params.toList args.toList ds p:=hA0
 have hgs:gs=[]:=by
  cases gs with
  |nil=>rfl
  |cons g gs=>exact hV.elim
 rw [Tryz.params8]at hA hval
 obtain⟨v0,v1,v2,d0,d1,d2,p0,p1,p2,hargs,hds,hps,h0,h1,h2⟩:=trodAll_three hA
 obtain⟨a0,ha0,ho0⟩:=JB (aac enc W) Qs rfl h0 (wY Tryz.underlying24 (hval 0 24 v0 rfl (by rw [hargs];rfl)))
 obtain⟨a1,ha1,ho1⟩:=JB (aaa enc W) RU rfl h1 (wY Tryz.underlying27 (hval 1 27 v1 rfl (by rw [hargs];rfl)))
 obtain⟨a2,ha2,ho2⟩:=JB (Xe enc W) Hs rfl h2 (wY Tryz.underlying71 (hval 2 71 v2 rfl (by rw [hargs];rfl)))
 have hcall:=aaG a0 a1 a2 (BW a0 ho0 a1 ho1 a2 ho2) W (Ld W) [v0,v1,v2] (Yu W (QL hL) (fun _ _=>trivial)) ⟨ha0,ha1,ha2,trivial⟩
 have hargs' :args=[v0,v1,v2].toArray:=hargs
 rw [←hargs']at hcall
 refine hcall.mono fun e W' ⟨v,S',he,hext,_,hv⟩=>⟨v,he,?_⟩
 rw [i8.1 hv]
 exact Sk (tb:=4) U0 (by rw [Tryz.params8];decide+kernel) rfl rfl Tryz.underlying4 hW' (by rw [hgs,hds];rfl) (Jz hext)
theorem u6:Tryz.pinned.checked.prog.funcNamed Rows.denoteFewerRow.func=some 8:=by kernel_rfl
theorem CO:false=Rows.denoteFewerRow.goesBy Tryz.pinned.checked.prog:=by kernel_rfl
theorem eK:(Rows.denoteFewerRow.wf (OpenSpec.ofChange Rows.denoteFewerSpec))=true∧(Tryz.f8.params.all (fun t=>Tryz.pinned.checked.prog.readableRec t))=true∧(namedTie Tryz.pinned.checked.prog Rows.denoteFewerRow.named Rows.denoteFewerSpec.vars)=true∧((Rows.denoteFewerRow.stops==[]))=true∧((Rows.denoteFewerRow.knobs==[]))=true∧((Rows.denoteFewerRow.maps==(Tryz.f8.params.toList++Rows.denoteFewerSpec.plain.varTypes Tryz.pinned.checked.prog).any (fun t=>Tryz.pinned.checked.prog.mapsRec t)))=true∧((Rows.denoteFewerRow.ifaces==(Tryz.f8.params.toList++Rows.denoteFewerSpec.plain.varTypes Tryz.pinned.checked.prog).any (fun t=>Tryz.pinned.checked.prog.ifacesRec t)))=true∧((Rows.denoteFewerRow.mapsOut==Tryz.pinned.checked.prog.mapsAmong Tryz.f8.resultTypes.toList))=true∧((Rows.denoteFewerRow.loops==(Tryz.f8.params.toList++Rows.denoteFewerSpec.plain.varTypes Tryz.pinned.checked.prog).any (fun t=>Tryz.pinned.checked.prog.loopsFrom t)))=true∧((Rows.denoteFewerRow.wideKeys==(Tryz.f8.params.toList++Rows.denoteFewerSpec.plain.varTypes Tryz.pinned.checked.prog++Tryz.f8.resultTypes.toList).any (fun t=>Tryz.pinned.checked.prog.wideKeysFrom t)))=true∧(Rows.denoteFewerSpec.vars.all (fun n=>Tryz.pinned.checked.prog.varReadable n))=true∧(Tryz.f8.resultTypes.all (fun t=>Tryz.pinned.checked.prog.readableRec t&&decide (t<Tryz.pinned.checked.prog.types.size)))=true∧((Rows.denoteFewerRow.ifacesOut==Tryz.f8.resultTypes.toList.any (fun t=>Tryz.pinned.checked.prog.ifacesRec t)))=true∧((Rows.denoteFewerRow.loopsOut==Tryz.f8.resultTypes.toList.any (fun t=>Tryz.pinned.checked.prog.loopsFrom t)))=true:=by
 have h:((Rows.denoteFewerRow.wf (OpenSpec.ofChange Rows.denoteFewerSpec))&&((Tryz.f8.params.all (fun t=>Tryz.pinned.checked.prog.readableRec t))&&((namedTie Tryz.pinned.checked.prog Rows.denoteFewerRow.named Rows.denoteFewerSpec.vars)&&(((Rows.denoteFewerRow.stops==[]))&&(((Rows.denoteFewerRow.knobs==[]))&&(((Rows.denoteFewerRow.maps==(Tryz.f8.params.toList++Rows.denoteFewerSpec.plain.varTypes Tryz.pinned.checked.prog).any (fun t=>Tryz.pinned.checked.prog.mapsRec t)))&&(((Rows.denoteFewerRow.ifaces==(Tryz.f8.params.toList++Rows.denoteFewerSpec.plain.varTypes Tryz.pinned.checked.prog).any (fun t=>Tryz.pinned.checked.prog.ifacesRec t)))&&(((Rows.denoteFewerRow.mapsOut==Tryz.pinned.checked.prog.mapsAmong Tryz.f8.resultTypes.toList))&&(((Rows.denoteFewerRow.loops==(Tryz.f8.params.toList++Rows.denoteFewerSpec.plain.varTypes Tryz.pinned.checked.prog).any (fun t=>Tryz.pinned.checked.prog.loopsFrom t)))&&(((Rows.denoteFewerRow.wideKeys==(Tryz.f8.params.toList++Rows.denoteFewerSpec.plain.varTypes Tryz.pinned.checked.prog++Tryz.f8.resultTypes.toList).any (fun t=>Tryz.pinned.checked.prog.wideKeysFrom t)))&&((Rows.denoteFewerSpec.vars.all (fun n=>Tryz.pinned.checked.prog.varReadable n))&&((Tryz.f8.resultTypes.all (fun t=>Tryz.pinned.checked.prog.readableRec t&&decide (t<Tryz.pinned.checked.prog.types.size)))&&(((Rows.denoteFewerRow.ifacesOut==Tryz.f8.resultTypes.toList.any (fun t=>Tryz.pinned.checked.prog.ifacesRec t)))&&(((Rows.denoteFewerRow.loopsOut==Tryz.f8.resultTypes.toList.any (fun t=>Tryz.pinned.checked.prog.loopsFrom t)))))))))))))))))=true:=by kernel_rfl
 simpa only [Bool.and_eq_true] using h
theorem rJ:((Rows.denoteFewerRow.inPlace==Tryz.pinned.checked.prog.inPlace 8))=true∧((Rows.denoteFewerRow.unfollowed==Tryz.pinned.checked.prog.unfollowed 8))=true∧((Rows.denoteFewerRow.recurses==Tryz.pinned.checked.prog.recurses 8))=true∧((Rows.denoteFewerRow.named==Tryz.pinned.checked.prog.varsNamed 8))=true:=by
 have h:(((Rows.denoteFewerRow.inPlace==Tryz.pinned.checked.prog.inPlace 8))&&(((Rows.denoteFewerRow.unfollowed==Tryz.pinned.checked.prog.unfollowed 8))&&(((Rows.denoteFewerRow.recurses==Tryz.pinned.checked.prog.recurses 8))&&(((Rows.denoteFewerRow.named==Tryz.pinned.checked.prog.varsNamed 8))))))=true:=by kernel_rfl
 simpa only [Bool.and_eq_true] using h
theorem lO:((Rows.denoteFewerRow.plainKeys==Tryz.pinned.checked.prog.plainKeys))=true∧(Rows.denoteFewerRow.shortTexts.isNone)=true∧((Rows.denoteFewerRow.lifted==Tryz.pinned.checked.prog.liftsFinal))=true∧((Tryz.pinned.checked.prog.make==some Rows.denoteFewerRow.make))=true∧((Rows.denoteFewerRow.pinned==Rows.denoteFewerRow.pinnedBy))=true∧((Rows.denoteFewerRow.veiled==(Tryz.f8.params.toList++Rows.denoteFewerSpec.plain.varTypes Tryz.pinned.checked.prog++Tryz.f8.resultTypes.toList).any (fun t=>Tryz.pinned.checked.prog.veiledRec t)))=true∧(Rows.denoteFewerRow.veiledFits Tryz.pinned.checked.prog Tryz.f8.params.toList (Tryz.f8.params.toList++Rows.denoteFewerSpec.plain.varTypes Tryz.pinned.checked.prog++Tryz.f8.resultTypes.toList))=true:=by
 have h:(((Rows.denoteFewerRow.plainKeys==Tryz.pinned.checked.prog.plainKeys))&&((Rows.denoteFewerRow.shortTexts.isNone)&&(((Rows.denoteFewerRow.lifted==Tryz.pinned.checked.prog.liftsFinal))&&(((Tryz.pinned.checked.prog.make==some Rows.denoteFewerRow.make))&&(((Rows.denoteFewerRow.pinned==Rows.denoteFewerRow.pinnedBy))&&(((Rows.denoteFewerRow.veiled==(Tryz.f8.params.toList++Rows.denoteFewerSpec.plain.varTypes Tryz.pinned.checked.prog++Tryz.f8.resultTypes.toList).any (fun t=>Tryz.pinned.checked.prog.veiledRec t)))&&((Rows.denoteFewerRow.veiledFits Tryz.pinned.checked.prog Tryz.f8.params.toList (Tryz.f8.params.toList++Rows.denoteFewerSpec.plain.varTypes Tryz.pinned.checked.prog++Tryz.f8.resultTypes.toList)))))))))=true:=by kernel_rfl
 simpa only [Bool.and_eq_true] using h
theorem AM:joinedFacts Tryz.pinned.checked.prog 8 Tryz.f8 Rows.denoteFewerSpec Rows.denoteFewerRow=true:=by
 unfold joinedFacts
 exact fe (fe (fe (fe (fe (fe (fe (fe (fe (fe (fe (fe (fe (fe (fe (fe (fe (fe (fe (fe (fe (fe (fe (fe (fe (fe (fe (fe (fe (fe (fe (eK.1) (y9.1)) (y9.2.1)) (eK.2.1)) (eK.2.2.1)) (eK.2.2.2.1)) (y9.2.2.1)) (eK.2.2.2.2.1)) (y9.2.2.2.1)) (rJ.1)) (rJ.2.1)) (rJ.2.2.1)) (rJ.2.2.2)) (eK.2.2.2.2.2.1)) (eK.2.2.2.2.2.2.1)) (eK.2.2.2.2.2.2.2.1)) (eK.2.2.2.2.2.2.2.2.1)) (eK.2.2.2.2.2.2.2.2.2.1)) (eK.2.2.2.2.2.2.2.2.2.2.1)) (eK.2.2.2.2.2.2.2.2.2.2.2.1)) (eK.2.2.2.2.2.2.2.2.2.2.2.2.1)) (eK.2.2.2.2.2.2.2.2.2.2.2.2.2)) (lO.1)) (lO.2.1)) (y9.2.2.2.2.1)) (y9.2.2.2.2.2)) (lO.2.2.1)) (lO.2.2.2.1)) (by kernel_rfl)) (lO.2.2.2.2.1)) (lO.2.2.2.2.2.1)) (lO.2.2.2.2.2.2)
theorem CN:Rows.DenoteFewerSaid:=
 OpenClaim.holds_of_wide 8 Tryz.f8 rfl rfl rfl rfl rfl rfl rfl ⟨rfl,rfl,rfl,rfl,rfl⟩ rfl rfl rfl rfl rfl u6 Tryz.func8 AM
  (of_decide_eq_true (by kernel_rfl)) (by unfold Func.isWrapper;first|(rw [if_pos (by decide+kernel)];kernel_rfl)|(rw [if_neg (by decide+kernel)];exact⟨rfl,rfl⟩))
  (fun os started H enc _=>AL os started H enc)
theorem denoteFewer_card:Rows.DenoteFewerCardSaid:=
 Claim7.holds_tied_plain_at .later [] [.data] true (true, "85db28590683e9d5afa1430223a94669cccdc8a71b628dceb05087e847db95a3") false
  CN (fun _ h=>by cases h) (by kernel_rfl) (fun _ h=>by cases h) denoteFewer_row_tie rfl ⟨rfl,rfl⟩ UC rfl
  (fun f fn hf hfn=>by
   obtain rfl:f=8:=Option.some.inj ((show Tryz.prog.funcNamed "bowsprit/bowspritlaw15.DenoteFewer" =some 8 from u6).symm.trans hf)|>.symm
   obtain rfl:fn=Tryz.f8:=(Option.some.inj (Tryz.func8.symm.trans hfn)).symm
   exact⟨RY,fun j t ht=>by
    rw [Tryz.params8]at ht
    have hm:t∈[24,27,71]:=by simpa using Array.mem_of_getElem? ht
    have hall:([24,27,71].all fun u=> !Tryz.prog.wantsStandIn u)=true:=by kernel_rfl
    exact(show Tryz.prog.wantsStandIn t=false by simpa using List.all_eq_true.1 hall t hm)⟩)
  CO
#print axioms denoteFewer_card
end Go.Proofs.YtfhhakidodmdfaaGreatDoor

