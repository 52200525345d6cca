/- co of this claim: PropProjects. -/
import Derived.Test.YtmogpgcfognefaaGreatDoorNeA0
import Derived.Test.YtmogpgcfognefaaGreatDoorNeP23
import Derived.Test.YtmogpgcfognefaaGreatDoorNeZX
import Derived.Test.YtmogpgcfognefaaGreatDoorTie
import Derived.Test.YtmogpgcfognefaaGreatDoorCards
import Derived.SevenTiedAt
set_option linter.all false
namespace Go.Proofs.YtmogpgcfognefaaGreatDoor
open Go Go.ChangeShapes Go.WideShapes Go.ChangeAt Go.RowKit

set_option maxRecDepth 100000 in
theorem wh(os:Os)(started:os.Started)(H:Type)(enc:TypeId×Value→H):
  ReturnsInHanded {} Tryz.checked os 7 .any (fun w args=>(Rows.propProjectsSpec.pre enc Tryz.prog Tryz.f7 [] false w args∧laidMetH Tryz.prog xT w)∧sizedMet enc Tryz.prog Tryz.f7 (OpenSpec.ofChange Rows.propProjectsSpec) false w args)
   (Rows.propProjectsSpec.post enc Tryz.prog Tryz.f7 false true false false):=by
 refine returnsInHanded_of_change_and (C:=Tryz.checked) (X:=fun w _=>laidMetH Tryz.prog xT w) (fun _ _ _ hh h=>h.of_heap hh) SM started (by kernel_rfl) Tryz.func7
  (ChangeSpec.witness_shaped (enc:=enc) (C:=Tryz.checked) (os:=os) (X:=fun w _=>laidMetH Tryz.prog xT w) false (World.laidAll Tryz.prog os xT) #[.slice none 0 0,.slice none 0 0,.slice none 0 0] 8 (World.laidAll_os _ _ _) (World.shaped_of_ZipB (by kernel_rfl) (by kernel_rfl)) (by kernel_rfl) (by kernel_rfl) (by kernel_rfl) (No os _)) ?_
 intro W base args ds gs before hval0 hW hcnd _ hL _
 have hval: ∀(j:Nat) t v,Tryz.f7.params[j]? =some t→args[j]? =some v→Value.okWide Tryz.prog W .any base t v:=hval0
 have hW' :=hW
 obtain⟨p,q,hA0,hV,hbf,hfz,hnd⟩:=hW
 have hA:DataW.TrodAll enc Tryz.prog W 0 (fun _=>true) true Tryz.f7.params.toList args.toList ds p:=hA0
 have hgs:gs=[]:=by
  cases gs with
  |nil=>rfl
  |cons g gs=>exact hV.elim
 rw [Tryz.params7]at hA hval
 obtain⟨v0,v1,v2,d0,d1,d2,p0,p1,p2,hargs,hds,hps,h0,h1,h2⟩:=trodAll_three hA
 obtain⟨a0,ha0,ho0⟩:=Fw (Ri enc W) (HV HW) rfl h0 (vl Tryz.underlying29 (hval 0 29 v0 rfl (by rw [hargs];rfl)))
 obtain⟨a1,ha1,ho1⟩:=Fw (Ri enc W) (HV HW) rfl h1 (vl Tryz.underlying29 (hval 1 29 v1 rfl (by rw [hargs];rfl)))
 obtain⟨a2,ha2,ho2⟩:=Fw (Um enc W) (HV (Ou HW)) rfl h2 (vl Tryz.underlying89 (hval 2 89 v2 rfl (by rw [hargs];rfl)))
 have hcall:=U7 a0 a1 a2 (wV a0 ho0 a1 a2 ho2) W (E3 W) [v0,v1,v2] (SE W (Lp hL) (Ml hL)) ⟨ha0,ha1,ha2,trivial⟩
 have hargs' :args=[v0,v1,v2].toArray:=hargs
 rw [←hargs']at hcall
 refine hcall.mono fun e W' ⟨v,S',he,hext,_,hv⟩=>⟨v,he,?_⟩
 rw [gi.1 hv]
 exact MK (tb:=4) OM (by rw [Tryz.params7];decide+kernel) rfl rfl Tryz.underlying4 hW' (by rw [hgs,hds];rfl) (Ft hext)
theorem qZ:Tryz.pinned.checked.prog.funcNamed Rows.propProjectsRow.func=some 7:=by kernel_rfl
theorem xM:false=Rows.propProjectsRow.goesBy Tryz.pinned.checked.prog:=by kernel_rfl
theorem dP:(Rows.propProjectsRow.wf (OpenSpec.ofChange Rows.propProjectsSpec))=true∧(Tryz.f7.params.all (fun t=>Tryz.pinned.checked.prog.readableRec t))=true∧(namedTie Tryz.pinned.checked.prog Rows.propProjectsRow.named Rows.propProjectsSpec.vars)=true∧((Rows.propProjectsRow.stops==[]))=true∧((Rows.propProjectsRow.knobs==[]))=true∧((Rows.propProjectsRow.maps==(Tryz.f7.params.toList++Rows.propProjectsSpec.plain.varTypes Tryz.pinned.checked.prog).any (fun t=>Tryz.pinned.checked.prog.mapsRec t)))=true∧((Rows.propProjectsRow.ifaces==(Tryz.f7.params.toList++Rows.propProjectsSpec.plain.varTypes Tryz.pinned.checked.prog).any (fun t=>Tryz.pinned.checked.prog.ifacesRec t)))=true∧((Rows.propProjectsRow.mapsOut==Tryz.pinned.checked.prog.mapsAmong Tryz.f7.resultTypes.toList))=true∧((Rows.propProjectsRow.loops==(Tryz.f7.params.toList++Rows.propProjectsSpec.plain.varTypes Tryz.pinned.checked.prog).any (fun t=>Tryz.pinned.checked.prog.loopsFrom t)))=true∧((Rows.propProjectsRow.wideKeys==(Tryz.f7.params.toList++Rows.propProjectsSpec.plain.varTypes Tryz.pinned.checked.prog++Tryz.f7.resultTypes.toList).any (fun t=>Tryz.pinned.checked.prog.wideKeysFrom t)))=true∧(Rows.propProjectsSpec.vars.all (fun n=>Tryz.pinned.checked.prog.varReadable n))=true∧(Tryz.f7.resultTypes.all (fun t=>Tryz.pinned.checked.prog.readableRec t&&decide (t<Tryz.pinned.checked.prog.types.size)))=true∧((Rows.propProjectsRow.ifacesOut==Tryz.f7.resultTypes.toList.any (fun t=>Tryz.pinned.checked.prog.ifacesRec t)))=true∧((Rows.propProjectsRow.loopsOut==Tryz.f7.resultTypes.toList.any (fun t=>Tryz.pinned.checked.prog.loopsFrom t)))=true:=by
 have h:((Rows.propProjectsRow.wf (OpenSpec.ofChange Rows.propProjectsSpec))&&((Tryz.f7.params.all (fun t=>Tryz.pinned.checked.prog.readableRec t))&&((namedTie Tryz.pinned.checked.prog Rows.propProjectsRow.named Rows.propProjectsSpec.vars)&&(((Rows.propProjectsRow.stops==[]))&&(((Rows.propProjectsRow.knobs==[]))&&(((Rows.propProjectsRow.maps==(Tryz.f7.params.toList++Rows.propProjectsSpec.plain.varTypes Tryz.pinned.checked.prog).any (fun t=>Tryz.pinned.checked.prog.mapsRec t)))&&(((Rows.propProjectsRow.ifaces==(Tryz.f7.params.toList++Rows.propProjectsSpec.plain.varTypes Tryz.pinned.checked.prog).any (fun t=>Tryz.pinned.checked.prog.ifacesRec t)))&&(((Rows.propProjectsRow.mapsOut==Tryz.pinned.checked.prog.mapsAmong Tryz.f7.resultTypes.toList))&&(((Rows.propProjectsRow.loops==(Tryz.f7.params.toList++Rows.propProjectsSpec.plain.varTypes Tryz.pinned.checked.prog).any (fun t=>Tryz.pinned.checked.prog.loopsFrom t)))&&(((Rows.propProjectsRow.wideKeys==(Tryz.f7.params.toList++Rows.propProjectsSpec.plain.varTypes Tryz.pinned.checked.prog++Tryz.f7.resultTypes.toList).any (fun t=>Tryz.pinned.checked.prog.wideKeysFrom t)))&&((Rows.propProjectsSpec.vars.all (fun n=>Tryz.pinned.checked.prog.varReadable n))&&((Tryz.f7.resultTypes.all (fun t=>Tryz.pinned.checked.prog.readableRec t&&decide (t<Tryz.pinned.checked.prog.types.size)))&&(((Rows.propProjectsRow.ifacesOut==Tryz.f7.resultTypes.toList.any (fun t=>Tryz.pinned.checked.prog.ifacesRec t)))&&(((Rows.propProjectsRow.loopsOut==Tryz.f7.resultTypes.toList.any (fun t=>Tryz.pinned.checked.prog.loopsFrom t)))))))))))))))))=true:=by kernel_rfl
 simpa only [Bool.and_eq_true] using h
theorem nT:((Rows.propProjectsRow.inPlace==Tryz.pinned.checked.prog.inPlace 7))=true∧((Rows.propProjectsRow.unfollowed==Tryz.pinned.checked.prog.unfollowed 7))=true∧((Rows.propProjectsRow.recurses==Tryz.pinned.checked.prog.recurses 7))=true∧((Rows.propProjectsRow.named==Tryz.pinned.checked.prog.varsNamed 7))=true:=by
 have h:(((Rows.propProjectsRow.inPlace==Tryz.pinned.checked.prog.inPlace 7))&&(((Rows.propProjectsRow.unfollowed==Tryz.pinned.checked.prog.unfollowed 7))&&(((Rows.propProjectsRow.recurses==Tryz.pinned.checked.prog.recurses 7))&&(((Rows.propProjectsRow.named==Tryz.pinned.checked.prog.varsNamed 7))))))=true:=by kernel_rfl
 simpa only [Bool.and_eq_true] using h
theorem jo:((Rows.propProjectsRow.plainKeys==Tryz.pinned.checked.prog.plainKeys))=true∧(Rows.propProjectsRow.shortTexts.isNone)=true∧((Rows.propProjectsRow.lifted==Tryz.pinned.checked.prog.liftsFinal))=true∧((Tryz.pinned.checked.prog.make==some Rows.propProjectsRow.make))=true∧((Rows.propProjectsRow.pinned==Rows.propProjectsRow.pinnedBy))=true∧((Rows.propProjectsRow.veiled==(Tryz.f7.params.toList++Rows.propProjectsSpec.plain.varTypes Tryz.pinned.checked.prog++Tryz.f7.resultTypes.toList).any (fun t=>Tryz.pinned.checked.prog.veiledRec t)))=true∧(Rows.propProjectsRow.veiledFits Tryz.pinned.checked.prog Tryz.f7.params.toList (Tryz.f7.params.toList++Rows.propProjectsSpec.plain.varTypes Tryz.pinned.checked.prog++Tryz.f7.resultTypes.toList))=true:=by
 have h:(((Rows.propProjectsRow.plainKeys==Tryz.pinned.checked.prog.plainKeys))&&((Rows.propProjectsRow.shortTexts.isNone)&&(((Rows.propProjectsRow.lifted==Tryz.pinned.checked.prog.liftsFinal))&&(((Tryz.pinned.checked.prog.make==some Rows.propProjectsRow.make))&&(((Rows.propProjectsRow.pinned==Rows.propProjectsRow.pinnedBy))&&(((Rows.propProjectsRow.veiled==(Tryz.f7.params.toList++Rows.propProjectsSpec.plain.varTypes Tryz.pinned.checked.prog++Tryz.f7.resultTypes.toList).any (fun t=>Tryz.pinned.checked.prog.veiledRec t)))&&((Rows.propProjectsRow.veiledFits Tryz.pinned.checked.prog Tryz.f7.params.toList (Tryz.f7.params.toList++Rows.propProjectsSpec.plain.varTypes Tryz.pinned.checked.prog++Tryz.f7.resultTypes.toList)))))))))=true:=by kernel_rfl
 simpa only [Bool.and_eq_true] using h
theorem wi:joinedFacts Tryz.pinned.checked.prog 7 Tryz.f7 Rows.propProjectsSpec Rows.propProjectsRow=true:=by
 unfold joinedFacts
 exact ez (ez (ez (ez (ez (ez (ez (ez (ez (ez (ez (ez (ez (ez (ez (ez (ez (ez (ez (ez (ez (ez (ez (ez (ez (ez (ez (ez (ez (ez (ez (dP.1) (vH.1)) (vH.2.1)) (dP.2.1)) (dP.2.2.1)) (dP.2.2.2.1)) (vH.2.2.1)) (dP.2.2.2.2.1)) (vH.2.2.2.1)) (nT.1)) (nT.2.1)) (nT.2.2.1)) (nT.2.2.2)) (dP.2.2.2.2.2.1)) (dP.2.2.2.2.2.2.1)) (dP.2.2.2.2.2.2.2.1)) (dP.2.2.2.2.2.2.2.2.1)) (dP.2.2.2.2.2.2.2.2.2.1)) (dP.2.2.2.2.2.2.2.2.2.2.1)) (dP.2.2.2.2.2.2.2.2.2.2.2.1)) (dP.2.2.2.2.2.2.2.2.2.2.2.2.1)) (dP.2.2.2.2.2.2.2.2.2.2.2.2.2)) (jo.1)) (jo.2.1)) (vH.2.2.2.2.1)) (vH.2.2.2.2.2)) (jo.2.2.1)) (jo.2.2.2.1)) (by kernel_rfl)) (jo.2.2.2.2.1)) (jo.2.2.2.2.2.1)) (jo.2.2.2.2.2.2)
theorem xL:Rows.PropProjectsSaid:=
 OpenClaim.holds_of_wide 7 Tryz.f7 rfl rfl rfl rfl rfl rfl rfl ⟨rfl,rfl,rfl,rfl,rfl⟩ rfl rfl rfl rfl rfl qZ Tryz.func7 wi
  (of_decide_eq_true (by kernel_rfl)) (by unfold Func.isWrapper;first|(rw [if_pos (by decide+kernel)];kernel_rfl)|(rw [if_neg (by decide+kernel)];exact⟨rfl,rfl⟩))
  (fun os started H enc _=>wh os started H enc)
theorem propProjects_card:Rows.PropProjectsCardSaid:=
 Claim7.holds_tied_plain_at .later [] [.data,.widerDeep,.data,.data,.pinned,.pinned] true (true, "bb13d3eb1f937d7c1d6c9112fc0e8d4933c1a8b2b26744fdabef76fe234983bc") false
  xL (fun _ h=>by cases h) (by kernel_rfl) (fun _ h=>by cases h) propProjects_row_tie rfl ⟨rfl,rfl⟩ Oy rfl
  (fun f fn hf hfn=>by
   obtain rfl:f=7:=Option.some.inj ((show Tryz.prog.funcNamed "bowsprit/bowspritlaw18.PropProjects" =some 7 from qZ).symm.trans hf)|>.symm
   obtain rfl:fn=Tryz.f7:=(Option.some.inj (Tryz.func7.symm.trans hfn)).symm
   exact⟨My,fun j t ht=>by
    rw [Tryz.params7]at ht
    have hm:t∈[29,29,89]:=by simpa using Array.mem_of_getElem? ht
    have hall:([29,29,89].all fun u=> !Tryz.prog.wantsStandIn u)=true:=by kernel_rfl
    exact(show Tryz.prog.wantsStandIn t=false by simpa using List.all_eq_true.1 hall t hm)⟩)
  xM
#print axioms propProjects_card
end Go.Proofs.YtmogpgcfognefaaGreatDoor

