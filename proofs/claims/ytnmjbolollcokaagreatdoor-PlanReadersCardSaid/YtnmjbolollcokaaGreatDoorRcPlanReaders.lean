/- cR of this claim: PlanReaders. -/
import Derived.Test.YtnmjbolollcokaaGreatDoorRcA0
import Derived.Test.YtnmjbolollcokaaGreatDoorRcP13
import Derived.Test.YtnmjbolollcokaaGreatDoorRcU9
import Derived.Test.YtnmjbolollcokaaGreatDoorTie
import Derived.Test.YtnmjbolollcokaaGreatDoorCards
import Derived.SevenTiedAt
set_option linter.all false
namespace Go.Proofs.YtnmjbolollcokaaGreatDoor
open Go Go.ChangeShapes Go.WideShapes Go.ChangeAt Go.RowKit

set_option maxRecDepth 100000 in
theorem xH(os:Os)(started:os.Started)(H:Type)(enc:TypeId×Value→H):
  ReturnsInHanded {} Tryz.checked os 4 .any (fun w args=>(Rows.planReadersSpec.pre enc Tryz.prog Tryz.f4 [] false w args∧laidMetH Tryz.prog yP w)∧sizedMet enc Tryz.prog Tryz.f4 (OpenSpec.ofChange Rows.planReadersSpec) false w args)
   (Rows.planReadersSpec.post enc Tryz.prog Tryz.f4 false true false false):=by
 refine returnsInHanded_of_change_and (C:=Tryz.checked) (X:=fun w _=>laidMetH Tryz.prog yP w) (fun _ _ _ hh h=>h.of_heap hh) RH started (by kernel_rfl) Tryz.func4
  (ChangeSpec.witness_shaped (enc:=enc) (C:=Tryz.checked) (os:=os) (X:=fun w _=>laidMetH Tryz.prog yP w) false (World.laidAll Tryz.prog os yP) #[.agg #[.slice none 0 0],.agg #[.slice none 0 0]] 8 (World.laidAll_os _ _ _) (World.shaped_of_ZipB (by kernel_rfl) (by kernel_rfl)) (by kernel_rfl) (by kernel_rfl) (by kernel_rfl) (Oc os _)) ?_
 intro W base args ds gs before hval0 hW hcnd _ hL _
 have hval: ∀(j:Nat) t v,Tryz.f4.params[j]? =some t→args[j]? =some v→Value.okWide Tryz.prog W .any base t v:=hval0
 have hW' :=hW
 obtain⟨p,q,hA0,hV,hbf,hfz,hnd⟩:=hW
 have hA:DataW.TrodAll enc Tryz.prog W 0 (fun _=>true) true Tryz.f4.params.toList args.toList ds p:=hA0
 have hgs:gs=[]:=by
  cases gs with
  |nil=>rfl
  |cons g gs=>exact hV.elim
 rw [Tryz.params4]at hA hval
 obtain⟨v0,v1,d0,d1,p0,p1,hargs,hds,hps,h0,h1⟩:=trodAll_two hA
 obtain⟨a0,ha0,ho0⟩:=KB (Tm enc W) Lf rfl h0 (zh Tryz.underlying24 (hval 0 24 v0 rfl (by rw [hargs];rfl)))
 obtain⟨a1,ha1,ho1⟩:=KB (Tk enc W) GU rfl h1 (zh Tryz.underlying27 (hval 1 27 v1 rfl (by rw [hargs];rfl)))
 have hcall:=T0 a0 a1 (zR a0 a1) W (Hf W) [v0,v1] (RE W (LI hL) (MI hL)) ⟨ha0,ha1,trivial⟩
 have hargs' :args=[v0,v1].toArray:=hargs
 rw [←hargs']at hcall
 refine hcall.mono fun e W' ⟨v,S',he,hext,_,hv⟩=>⟨v,he,?_⟩
 rw [iP.1 hv]
 exact Nn (tb:=4) Pi (by rw [Tryz.params4];decide+kernel) rfl rfl Tryz.underlying4 hW' (by rw [hgs,hds];rfl) (FR hext)
theorem sr:Tryz.pinned.checked.prog.funcNamed Rows.planReadersRow.func=some 4:=by kernel_rfl
theorem zT:false=Rows.planReadersRow.goesBy Tryz.pinned.checked.prog:=by kernel_rfl
theorem d3:(Rows.planReadersRow.wf (OpenSpec.ofChange Rows.planReadersSpec))=true∧(Tryz.f4.params.all (fun t=>Tryz.pinned.checked.prog.readableRec t))=true∧(namedTie Tryz.pinned.checked.prog Rows.planReadersRow.named Rows.planReadersSpec.vars)=true∧((Rows.planReadersRow.stops==[]))=true∧((Rows.planReadersRow.knobs==[]))=true∧((Rows.planReadersRow.maps==(Tryz.f4.params.toList++Rows.planReadersSpec.plain.varTypes Tryz.pinned.checked.prog).any (fun t=>Tryz.pinned.checked.prog.mapsRec t)))=true∧((Rows.planReadersRow.ifaces==(Tryz.f4.params.toList++Rows.planReadersSpec.plain.varTypes Tryz.pinned.checked.prog).any (fun t=>Tryz.pinned.checked.prog.ifacesRec t)))=true∧((Rows.planReadersRow.mapsOut==Tryz.pinned.checked.prog.mapsAmong Tryz.f4.resultTypes.toList))=true∧((Rows.planReadersRow.loops==(Tryz.f4.params.toList++Rows.planReadersSpec.plain.varTypes Tryz.pinned.checked.prog).any (fun t=>Tryz.pinned.checked.prog.loopsFrom t)))=true∧((Rows.planReadersRow.wideKeys==(Tryz.f4.params.toList++Rows.planReadersSpec.plain.varTypes Tryz.pinned.checked.prog++Tryz.f4.resultTypes.toList).any (fun t=>Tryz.pinned.checked.prog.wideKeysFrom t)))=true∧(Rows.planReadersSpec.vars.all (fun n=>Tryz.pinned.checked.prog.varReadable n))=true∧(Tryz.f4.resultTypes.all (fun t=>Tryz.pinned.checked.prog.readableRec t&&decide (t<Tryz.pinned.checked.prog.types.size)))=true∧((Rows.planReadersRow.ifacesOut==Tryz.f4.resultTypes.toList.any (fun t=>Tryz.pinned.checked.prog.ifacesRec t)))=true∧((Rows.planReadersRow.loopsOut==Tryz.f4.resultTypes.toList.any (fun t=>Tryz.pinned.checked.prog.loopsFrom t)))=true:=by
 have h:((Rows.planReadersRow.wf (OpenSpec.ofChange Rows.planReadersSpec))&&((Tryz.f4.params.all (fun t=>Tryz.pinned.checked.prog.readableRec t))&&((namedTie Tryz.pinned.checked.prog Rows.planReadersRow.named Rows.planReadersSpec.vars)&&(((Rows.planReadersRow.stops==[]))&&(((Rows.planReadersRow.knobs==[]))&&(((Rows.planReadersRow.maps==(Tryz.f4.params.toList++Rows.planReadersSpec.plain.varTypes Tryz.pinned.checked.prog).any (fun t=>Tryz.pinned.checked.prog.mapsRec t)))&&(((Rows.planReadersRow.ifaces==(Tryz.f4.params.toList++Rows.planReadersSpec.plain.varTypes Tryz.pinned.checked.prog).any (fun t=>Tryz.pinned.checked.prog.ifacesRec t)))&&(((Rows.planReadersRow.mapsOut==Tryz.pinned.checked.prog.mapsAmong Tryz.f4.resultTypes.toList))&&(((Rows.planReadersRow.loops==(Tryz.f4.params.toList++Rows.planReadersSpec.plain.varTypes Tryz.pinned.checked.prog).any (fun t=>Tryz.pinned.checked.prog.loopsFrom t)))&&(((Rows.planReadersRow.wideKeys==(Tryz.f4.params.toList++Rows.planReadersSpec.plain.varTypes Tryz.pinned.checked.prog++Tryz.f4.resultTypes.toList).any (fun t=>Tryz.pinned.checked.prog.wideKeysFrom t)))&&((Rows.planReadersSpec.vars.all (fun n=>Tryz.pinned.checked.prog.varReadable n))&&((Tryz.f4.resultTypes.all (fun t=>Tryz.pinned.checked.prog.readableRec t&&decide (t<Tryz.pinned.checked.prog.types.size)))&&(((Rows.planReadersRow.ifacesOut==Tryz.f4.resultTypes.toList.any (fun t=>Tryz.pinned.checked.prog.ifacesRec t)))&&(((Rows.planReadersRow.loopsOut==Tryz.f4.resultTypes.toList.any (fun t=>Tryz.pinned.checked.prog.loopsFrom t)))))))))))))))))=true:=by kernel_rfl
 simpa only [Bool.and_eq_true] using h
theorem pR:((Rows.planReadersRow.inPlace==Tryz.pinned.checked.prog.inPlace 4))=true∧((Rows.planReadersRow.unfollowed==Tryz.pinned.checked.prog.unfollowed 4))=true∧((Rows.planReadersRow.recurses==Tryz.pinned.checked.prog.recurses 4))=true∧((Rows.planReadersRow.named==Tryz.pinned.checked.prog.varsNamed 4))=true:=by
 have h:(((Rows.planReadersRow.inPlace==Tryz.pinned.checked.prog.inPlace 4))&&(((Rows.planReadersRow.unfollowed==Tryz.pinned.checked.prog.unfollowed 4))&&(((Rows.planReadersRow.recurses==Tryz.pinned.checked.prog.recurses 4))&&(((Rows.planReadersRow.named==Tryz.pinned.checked.prog.varsNamed 4))))))=true:=by kernel_rfl
 simpa only [Bool.and_eq_true] using h
theorem kg:((Rows.planReadersRow.plainKeys==Tryz.pinned.checked.prog.plainKeys))=true∧(Rows.planReadersRow.shortTexts.isNone)=true∧((Rows.planReadersRow.lifted==Tryz.pinned.checked.prog.liftsFinal))=true∧((Tryz.pinned.checked.prog.make==some Rows.planReadersRow.make))=true∧((Rows.planReadersRow.pinned==Rows.planReadersRow.pinnedBy))=true∧((Rows.planReadersRow.veiled==(Tryz.f4.params.toList++Rows.planReadersSpec.plain.varTypes Tryz.pinned.checked.prog++Tryz.f4.resultTypes.toList).any (fun t=>Tryz.pinned.checked.prog.veiledRec t)))=true∧(Rows.planReadersRow.veiledFits Tryz.pinned.checked.prog Tryz.f4.params.toList (Tryz.f4.params.toList++Rows.planReadersSpec.plain.varTypes Tryz.pinned.checked.prog++Tryz.f4.resultTypes.toList))=true:=by
 have h:(((Rows.planReadersRow.plainKeys==Tryz.pinned.checked.prog.plainKeys))&&((Rows.planReadersRow.shortTexts.isNone)&&(((Rows.planReadersRow.lifted==Tryz.pinned.checked.prog.liftsFinal))&&(((Tryz.pinned.checked.prog.make==some Rows.planReadersRow.make))&&(((Rows.planReadersRow.pinned==Rows.planReadersRow.pinnedBy))&&(((Rows.planReadersRow.veiled==(Tryz.f4.params.toList++Rows.planReadersSpec.plain.varTypes Tryz.pinned.checked.prog++Tryz.f4.resultTypes.toList).any (fun t=>Tryz.pinned.checked.prog.veiledRec t)))&&((Rows.planReadersRow.veiledFits Tryz.pinned.checked.prog Tryz.f4.params.toList (Tryz.f4.params.toList++Rows.planReadersSpec.plain.varTypes Tryz.pinned.checked.prog++Tryz.f4.resultTypes.toList)))))))))=true:=by kernel_rfl
 simpa only [Bool.and_eq_true] using h
theorem xI:joinedFacts Tryz.pinned.checked.prog 4 Tryz.f4 Rows.planReadersSpec Rows.planReadersRow=true:=by
 unfold joinedFacts
 exact eu (eu (eu (eu (eu (eu (eu (eu (eu (eu (eu (eu (eu (eu (eu (eu (eu (eu (eu (eu (eu (eu (eu (eu (eu (eu (eu (eu (eu (eu (eu (d3.1) (wu.1)) (wu.2.1)) (d3.2.1)) (d3.2.2.1)) (d3.2.2.2.1)) (wu.2.2.1)) (d3.2.2.2.2.1)) (wu.2.2.2.1)) (pR.1)) (pR.2.1)) (pR.2.2.1)) (pR.2.2.2)) (d3.2.2.2.2.2.1)) (d3.2.2.2.2.2.2.1)) (d3.2.2.2.2.2.2.2.1)) (d3.2.2.2.2.2.2.2.2.1)) (d3.2.2.2.2.2.2.2.2.2.1)) (d3.2.2.2.2.2.2.2.2.2.2.1)) (d3.2.2.2.2.2.2.2.2.2.2.2.1)) (d3.2.2.2.2.2.2.2.2.2.2.2.2.1)) (d3.2.2.2.2.2.2.2.2.2.2.2.2.2)) (kg.1)) (kg.2.1)) (wu.2.2.2.2.1)) (wu.2.2.2.2.2)) (kg.2.2.1)) (kg.2.2.2.1)) (by kernel_rfl)) (kg.2.2.2.2.1)) (kg.2.2.2.2.2.1)) (kg.2.2.2.2.2.2)
theorem zS:Rows.PlanReadersSaid:=
 OpenClaim.holds_of_wide 4 Tryz.f4 rfl rfl rfl rfl rfl rfl rfl ⟨rfl,rfl,rfl,rfl,rfl⟩ rfl rfl rfl rfl rfl sr Tryz.func4 xI
  (of_decide_eq_true (by kernel_rfl)) (by unfold Func.isWrapper;first|(rw [if_pos (by decide+kernel)];kernel_rfl)|(rw [if_neg (by decide+kernel)];exact⟨rfl,rfl⟩))
  (fun os started H enc _=>xH os started H enc)
theorem planReaders_card:Rows.PlanReadersCardSaid:=
 Claim7.holds_tied_plain_at .later [] [.data,.widerDeep,.data,.pinned,.pinned] true (true, "2279216227f6392ae59b4ac39390836c23730c69cea3a1571a4ea39c3eac179e") false
  zS (fun _ h=>by cases h) (by kernel_rfl) (fun _ h=>by cases h) planReaders_row_tie rfl ⟨rfl,rfl⟩ O5 rfl
  (fun f fn hf hfn=>by
   obtain rfl:f=4:=Option.some.inj ((show Tryz.prog.funcNamed "bowsprit/bowspritlaw19.PlanReaders" =some 4 from sr).symm.trans hf)|>.symm
   obtain rfl:fn=Tryz.f4:=(Option.some.inj (Tryz.func4.symm.trans hfn)).symm
   exact⟨MX,fun j t ht=>by
    rw [Tryz.params4]at ht
    have hm:t∈[24,27]:=by simpa using Array.mem_of_getElem? ht
    have hall:([24,27].all fun u=> !Tryz.prog.wantsStandIn u)=true:=by kernel_rfl
    exact(show Tryz.prog.wantsStandIn t=false by simpa using List.all_eq_true.1 hall t hm)⟩)
  zT
#print axioms planReaders_card
end Go.Proofs.YtnmjbolollcokaaGreatDoor

