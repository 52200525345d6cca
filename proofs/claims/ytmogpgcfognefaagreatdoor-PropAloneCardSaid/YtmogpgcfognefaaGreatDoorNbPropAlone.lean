/- cF of this claim: PropAlone. -/
import Derived.Test.YtmogpgcfognefaaGreatDoorNbA0
import Derived.Test.YtmogpgcfognefaaGreatDoorNbP11
import Derived.Test.YtmogpgcfognefaaGreatDoorNbY8
import Derived.Test.YtmogpgcfognefaaGreatDoorTie
import Derived.Test.YtmogpgcfognefaaGreatDoorCards
import Derived.SevenTiedAt
set_option linter.all false
namespace Go.Proofs.YtmogpgcfognefaaGreatDoor
open Go Go.ChangeShapes Go.WideShapes Go.ChangeAt Go.RowKit

set_option maxRecDepth 100000 in
theorem uN(os:Os)(started:os.Started)(H:Type)(enc:TypeId×Value→H):
  ReturnsInHanded {} Tryz.checked os 3 .any (fun w args=>(Rows.propAloneSpec.pre enc Tryz.prog Tryz.f3 [] false w args∧laidMetH Tryz.prog tH w)∧sizedMet enc Tryz.prog Tryz.f3 (OpenSpec.ofChange Rows.propAloneSpec) false w args)
   (Rows.propAloneSpec.post enc Tryz.prog Tryz.f3 false true false false):=by
 refine returnsInHanded_of_change_and (C:=Tryz.checked) (X:=fun w _=>laidMetH Tryz.prog tH w) (fun _ _ _ hh h=>h.of_heap hh) K8 started (by kernel_rfl) Tryz.func3
  (ChangeSpec.witness_shaped (enc:=enc) (C:=Tryz.checked) (os:=os) (X:=fun w _=>laidMetH Tryz.prog tH w) false (World.laidAll Tryz.prog os tH) #[.agg #[.slice none 0 0],.slice none 0 0] 8 (World.laidAll_os _ _ _) (World.shaped_of_ZipB (by kernel_rfl) (by kernel_rfl)) (by kernel_rfl) (by kernel_rfl) (by kernel_rfl) (Hs os _)) ?_
 intro W base args ds gs before hval0 hW hcnd _ hL _
 have hval: ∀(j:Nat) t v,Tryz.f3.params[j]? =some t→args[j]? =some v→Value.okWide Tryz.prog W .any base t v:=hval0
 have hW' :=hW
 obtain⟨p,q,hA0,hV,hbf,hfz,hnd⟩:=hW
 have hA:DataW.TrodAll enc Tryz.prog W 0 (fun _=>true) true Tryz.f3.params.toList args.toList ds p:=hA0
 have hgs:gs=[]:=by
  cases gs with
  |nil=>rfl
  |cons g gs=>exact hV.elim
 rw [Tryz.params3]at hA hval
 obtain⟨v0,v1,d0,d1,p0,p1,hargs,hds,hps,h0,h1⟩:=trodAll_two hA
 obtain⟨a0,ha0,ho0⟩:=J0 (Mt enc W) Bl rfl h0 (AJ Tryz.underlying24 (hval 0 24 v0 rfl (by rw [hargs];rfl)))
 obtain⟨a1,ha1,ho1⟩:=JZ (Ms enc W) (pe Fw) rfl h1 (B0 Tryz.underlying25 (hval 1 25 v1 rfl (by rw [hargs];rfl)))
 have hcall:=Nh a0 a1 (xa a0 a1) W (yD W) [v0,v1] (KY W (FR hL) (GJ hL)) ⟨ha0,ha1,trivial⟩
 have hargs' :args=[v0,v1].toArray:=hargs
 rw [←hargs']at hcall
 refine hcall.mono fun e W' ⟨v,S',he,hext,_,hv⟩=>⟨v,he,?_⟩
 rw [fu.1 hv]
 exact G3 (tb:=4) Iy (by rw [Tryz.params3];decide+kernel) rfl rfl Tryz.underlying4 hW' (by rw [hgs,hds];rfl) (AK hext)
theorem qw:Tryz.pinned.checked.prog.funcNamed Rows.propAloneRow.func=some 3:=by kernel_rfl
theorem xc:false=Rows.propAloneRow.goesBy Tryz.pinned.checked.prog:=by kernel_rfl
theorem eL:(Rows.propAloneRow.wf (OpenSpec.ofChange Rows.propAloneSpec))=true∧(Tryz.f3.params.all (fun t=>Tryz.pinned.checked.prog.readableRec t))=true∧(namedTie Tryz.pinned.checked.prog Rows.propAloneRow.named Rows.propAloneSpec.vars)=true∧((Rows.propAloneRow.stops==[]))=true∧((Rows.propAloneRow.knobs==[]))=true∧((Rows.propAloneRow.maps==(Tryz.f3.params.toList++Rows.propAloneSpec.plain.varTypes Tryz.pinned.checked.prog).any (fun t=>Tryz.pinned.checked.prog.mapsRec t)))=true∧((Rows.propAloneRow.ifaces==(Tryz.f3.params.toList++Rows.propAloneSpec.plain.varTypes Tryz.pinned.checked.prog).any (fun t=>Tryz.pinned.checked.prog.ifacesRec t)))=true∧((Rows.propAloneRow.mapsOut==Tryz.pinned.checked.prog.mapsAmong Tryz.f3.resultTypes.toList))=true∧((Rows.propAloneRow.loops==(Tryz.f3.params.toList++Rows.propAloneSpec.plain.varTypes Tryz.pinned.checked.prog).any (fun t=>Tryz.pinned.checked.prog.loopsFrom t)))=true∧((Rows.propAloneRow.wideKeys==(Tryz.f3.params.toList++Rows.propAloneSpec.plain.varTypes Tryz.pinned.checked.prog++Tryz.f3.resultTypes.toList).any (fun t=>Tryz.pinned.checked.prog.wideKeysFrom t)))=true∧(Rows.propAloneSpec.vars.all (fun n=>Tryz.pinned.checked.prog.varReadable n))=true∧(Tryz.f3.resultTypes.all (fun t=>Tryz.pinned.checked.prog.readableRec t&&decide (t<Tryz.pinned.checked.prog.types.size)))=true∧((Rows.propAloneRow.ifacesOut==Tryz.f3.resultTypes.toList.any (fun t=>Tryz.pinned.checked.prog.ifacesRec t)))=true∧((Rows.propAloneRow.loopsOut==Tryz.f3.resultTypes.toList.any (fun t=>Tryz.pinned.checked.prog.loopsFrom t)))=true:=by
 have h:((Rows.propAloneRow.wf (OpenSpec.ofChange Rows.propAloneSpec))&&((Tryz.f3.params.all (fun t=>Tryz.pinned.checked.prog.readableRec t))&&((namedTie Tryz.pinned.checked.prog Rows.propAloneRow.named Rows.propAloneSpec.vars)&&(((Rows.propAloneRow.stops==[]))&&(((Rows.propAloneRow.knobs==[]))&&(((Rows.propAloneRow.maps==(Tryz.f3.params.toList++Rows.propAloneSpec.plain.varTypes Tryz.pinned.checked.prog).any (fun t=>Tryz.pinned.checked.prog.mapsRec t)))&&(((Rows.propAloneRow.ifaces==(Tryz.f3.params.toList++Rows.propAloneSpec.plain.varTypes Tryz.pinned.checked.prog).any (fun t=>Tryz.pinned.checked.prog.ifacesRec t)))&&(((Rows.propAloneRow.mapsOut==Tryz.pinned.checked.prog.mapsAmong Tryz.f3.resultTypes.toList))&&(((Rows.propAloneRow.loops==(Tryz.f3.params.toList++Rows.propAloneSpec.plain.varTypes Tryz.pinned.checked.prog).any (fun t=>Tryz.pinned.checked.prog.loopsFrom t)))&&(((Rows.propAloneRow.wideKeys==(Tryz.f3.params.toList++Rows.propAloneSpec.plain.varTypes Tryz.pinned.checked.prog++Tryz.f3.resultTypes.toList).any (fun t=>Tryz.pinned.checked.prog.wideKeysFrom t)))&&((Rows.propAloneSpec.vars.all (fun n=>Tryz.pinned.checked.prog.varReadable n))&&((Tryz.f3.resultTypes.all (fun t=>Tryz.pinned.checked.prog.readableRec t&&decide (t<Tryz.pinned.checked.prog.types.size)))&&(((Rows.propAloneRow.ifacesOut==Tryz.f3.resultTypes.toList.any (fun t=>Tryz.pinned.checked.prog.ifacesRec t)))&&(((Rows.propAloneRow.loopsOut==Tryz.f3.resultTypes.toList.any (fun t=>Tryz.pinned.checked.prog.loopsFrom t)))))))))))))))))=true:=by kernel_rfl
 simpa only [Bool.and_eq_true] using h
theorem oQ:((Rows.propAloneRow.inPlace==Tryz.pinned.checked.prog.inPlace 3))=true∧((Rows.propAloneRow.unfollowed==Tryz.pinned.checked.prog.unfollowed 3))=true∧((Rows.propAloneRow.recurses==Tryz.pinned.checked.prog.recurses 3))=true∧((Rows.propAloneRow.named==Tryz.pinned.checked.prog.varsNamed 3))=true:=by
 have h:(((Rows.propAloneRow.inPlace==Tryz.pinned.checked.prog.inPlace 3))&&(((Rows.propAloneRow.unfollowed==Tryz.pinned.checked.prog.unfollowed 3))&&(((Rows.propAloneRow.recurses==Tryz.pinned.checked.prog.recurses 3))&&(((Rows.propAloneRow.named==Tryz.pinned.checked.prog.varsNamed 3))))))=true:=by kernel_rfl
 simpa only [Bool.and_eq_true] using h
theorem kO:((Rows.propAloneRow.plainKeys==Tryz.pinned.checked.prog.plainKeys))=true∧(Rows.propAloneRow.shortTexts.isNone)=true∧((Rows.propAloneRow.lifted==Tryz.pinned.checked.prog.liftsFinal))=true∧((Tryz.pinned.checked.prog.make==some Rows.propAloneRow.make))=true∧((Rows.propAloneRow.pinned==Rows.propAloneRow.pinnedBy))=true∧((Rows.propAloneRow.veiled==(Tryz.f3.params.toList++Rows.propAloneSpec.plain.varTypes Tryz.pinned.checked.prog++Tryz.f3.resultTypes.toList).any (fun t=>Tryz.pinned.checked.prog.veiledRec t)))=true∧(Rows.propAloneRow.veiledFits Tryz.pinned.checked.prog Tryz.f3.params.toList (Tryz.f3.params.toList++Rows.propAloneSpec.plain.varTypes Tryz.pinned.checked.prog++Tryz.f3.resultTypes.toList))=true:=by
 have h:(((Rows.propAloneRow.plainKeys==Tryz.pinned.checked.prog.plainKeys))&&((Rows.propAloneRow.shortTexts.isNone)&&(((Rows.propAloneRow.lifted==Tryz.pinned.checked.prog.liftsFinal))&&(((Tryz.pinned.checked.prog.make==some Rows.propAloneRow.make))&&(((Rows.propAloneRow.pinned==Rows.propAloneRow.pinnedBy))&&(((Rows.propAloneRow.veiled==(Tryz.f3.params.toList++Rows.propAloneSpec.plain.varTypes Tryz.pinned.checked.prog++Tryz.f3.resultTypes.toList).any (fun t=>Tryz.pinned.checked.prog.veiledRec t)))&&((Rows.propAloneRow.veiledFits Tryz.pinned.checked.prog Tryz.f3.params.toList (Tryz.f3.params.toList++Rows.propAloneSpec.plain.varTypes Tryz.pinned.checked.prog++Tryz.f3.resultTypes.toList)))))))))=true:=by kernel_rfl
 simpa only [Bool.and_eq_true] using h
theorem uO:joinedFacts Tryz.pinned.checked.prog 3 Tryz.f3 Rows.propAloneSpec Rows.propAloneRow=true:=by
 unfold joinedFacts
 exact dO (dO (dO (dO (dO (dO (dO (dO (dO (dO (dO (dO (dO (dO (dO (dO (dO (dO (dO (dO (dO (dO (dO (dO (dO (dO (dO (dO (dO (dO (dO (eL.1) (rF.1)) (rF.2.1)) (eL.2.1)) (eL.2.2.1)) (eL.2.2.2.1)) (rF.2.2.1)) (eL.2.2.2.2.1)) (rF.2.2.2.1)) (oQ.1)) (oQ.2.1)) (oQ.2.2.1)) (oQ.2.2.2)) (eL.2.2.2.2.2.1)) (eL.2.2.2.2.2.2.1)) (eL.2.2.2.2.2.2.2.1)) (eL.2.2.2.2.2.2.2.2.1)) (eL.2.2.2.2.2.2.2.2.2.1)) (eL.2.2.2.2.2.2.2.2.2.2.1)) (eL.2.2.2.2.2.2.2.2.2.2.2.1)) (eL.2.2.2.2.2.2.2.2.2.2.2.2.1)) (eL.2.2.2.2.2.2.2.2.2.2.2.2.2)) (kO.1)) (kO.2.1)) (rF.2.2.2.2.1)) (rF.2.2.2.2.2)) (kO.2.2.1)) (kO.2.2.2.1)) (by kernel_rfl)) (kO.2.2.2.2.1)) (kO.2.2.2.2.2.1)) (kO.2.2.2.2.2.2)
theorem xb:Rows.PropAloneSaid:=
 OpenClaim.holds_of_wide 3 Tryz.f3 rfl rfl rfl rfl rfl rfl rfl ⟨rfl,rfl,rfl,rfl,rfl⟩ rfl rfl rfl rfl rfl qw Tryz.func3 uO
  (of_decide_eq_true (by kernel_rfl)) (by unfold Func.isWrapper;first|(rw [if_pos (by decide+kernel)];kernel_rfl)|(rw [if_neg (by decide+kernel)];exact⟨rfl,rfl⟩))
  (fun os started H enc _=>uN os started H enc)
theorem propAlone_card:Rows.PropAloneCardSaid:=
 Claim7.holds_tied_plain_at .later [] [.data,.widerDeep,.data,.pinned,.pinned] true (true, "bb13d3eb1f937d7c1d6c9112fc0e8d4933c1a8b2b26744fdabef76fe234983bc") false
  xb (fun _ h=>by cases h) (by kernel_rfl) (fun _ h=>by cases h) propAlone_row_tie rfl ⟨rfl,rfl⟩ Il rfl
  (fun f fn hf hfn=>by
   obtain rfl:f=3:=Option.some.inj ((show Tryz.prog.funcNamed "bowsprit/bowspritlaw18.PropAlone" =some 3 from qw).symm.trans hf)|>.symm
   obtain rfl:fn=Tryz.f3:=(Option.some.inj (Tryz.func3.symm.trans hfn)).symm
   exact⟨GT,fun j t ht=>by
    rw [Tryz.params3]at ht
    have hm:t∈[24,25]:=by simpa using Array.mem_of_getElem? ht
    have hall:([24,25].all fun u=> !Tryz.prog.wantsStandIn u)=true:=by kernel_rfl
    exact(show Tryz.prog.wantsStandIn t=false by simpa using List.all_eq_true.1 hall t hm)⟩)
  xc
#print axioms propAlone_card
end Go.Proofs.YtmogpgcfognefaaGreatDoor

