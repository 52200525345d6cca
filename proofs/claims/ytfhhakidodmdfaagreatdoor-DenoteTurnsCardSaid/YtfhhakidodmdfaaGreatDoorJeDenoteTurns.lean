/- cT of this claim: DenoteTurns. -/
import Derived.Test.YtfhhakidodmdfaaGreatDoorJeA0
import Derived.Test.YtfhhakidodmdfaaGreatDoorJeP24
import Derived.Test.YtfhhakidodmdfaaGreatDoorJeJY
import Derived.Test.YtfhhakidodmdfaaGreatDoorTie
import Derived.Test.YtfhhakidodmdfaaGreatDoorCards
import Derived.SevenTiedAt
set_option linter.all false
namespace Go.Proofs.YtfhhakidodmdfaaGreatDoor
open Go Go.ChangeShapes Go.WideShapes Go.ChangeAt Go.RowKit

set_option maxRecDepth 100000 in
theorem zP(os:Os)(started:os.Started)(H:Type)(enc:TypeId×Value→H):
  ReturnsInHanded {} Tryz.checked os 7 .any (fun w args=>(Rows.denoteTurnsSpec.pre enc Tryz.prog Tryz.f7 [] false w args∧laidMetH Tryz.prog Kp w)∧sizedMet enc Tryz.prog Tryz.f7 (OpenSpec.ofChange Rows.denoteTurnsSpec) false w args)
   (Rows.denoteTurnsSpec.post enc Tryz.prog Tryz.f7 false true false false):=by
 refine returnsInHanded_of_change_and (C:=Tryz.checked) (X:=fun w _=>laidMetH Tryz.prog Kp w) (fun _ _ _ hh h=>h.of_heap hh) Xs started (by kernel_rfl) Tryz.func7
  (ChangeSpec.witness_shaped (enc:=enc) (C:=Tryz.checked) (os:=os) (X:=fun w _=>laidMetH Tryz.prog Kp w) false (World.doorLaid Tryz.prog 400 os) #[.agg #[.slice none 0 0],.agg #[.slice none 0 0],.int .i64 0] 8 rfl (World.shaped_of_RefB (by kernel_rfl) (by kernel_rfl)) (by kernel_rfl) (by kernel_rfl) (by kernel_rfl) (R8 os _)) ?_
 intro W base args ds gs before hval0 hW hcnd _ hL _
 have hval: ∀(j:Nat) t v,Tryz.f7.params[j]? =some t→args[j]? =some v→Value.okWide Tryz.prog W .any base t v:=hval0
 have hW' :=hW
 obtain⟨p,q,hA0,hV,hbf,hfz,hnd⟩:=hW
 have hA:DataW.TrodAll enc Tryz.prog W 0 (fun _=>true) true Tryz.f7.params.toList args.toList ds p:=hA0
 have hgs:gs=[]:=by
  cases gs with
  |nil=>rfl
  |cons g gs=>exact hV.elim
 rw [Tryz.params7]at hA hval
 obtain⟨v0,v1,v2,d0,d1,d2,p0,p1,p2,hargs,hds,hps,h0,h1,h2⟩:=trodAll_three hA
 obtain⟨a0,ha0,ho0⟩:=OQ (Za enc W) Pn rfl h0 (Bg Tryz.underlying24 (hval 0 24 v0 rfl (by rw [hargs];rfl)))
 obtain⟨a1,ha1,ho1⟩:=OQ (Y8 enc W) QV rfl h1 (Bg Tryz.underlying27 (hval 1 27 v1 rfl (by rw [hargs];rfl)))
 obtain⟨a2,ha2,ho2⟩:=VJ (Ao enc W) lH rfl h2 (PX Tryz.underlying3 (hval 2 3 v2 rfl (by rw [hargs];rfl)))
 have hcall:=ZH a0 a1 a2 (Bc a0 ho0 a1 ho1 a2) W (F5 W) [v0,v1,v2] (Xn W (PF hL) (fun _ _=>trivial)) ⟨ha0,ha1,ha2,trivial⟩
 have hargs' :args=[v0,v1,v2].toArray:=hargs
 rw [←hargs']at hcall
 refine hcall.mono fun e W' ⟨v,S',he,hext,_,hv⟩=>⟨v,he,?_⟩
 rw [iE.1 hv]
 exact Rm (tb:=4) TU (by rw [Tryz.params7];decide+kernel) rfl rfl Tryz.underlying4 hW' (by rw [hgs,hds];rfl) (IM hext)
theorem ui:Tryz.pinned.checked.prog.funcNamed Rows.denoteTurnsRow.func=some 7:=by kernel_rfl
theorem B4:false=Rows.denoteTurnsRow.goesBy Tryz.pinned.checked.prog:=by kernel_rfl
theorem ez:(Rows.denoteTurnsRow.wf (OpenSpec.ofChange Rows.denoteTurnsSpec))=true∧(Tryz.f7.params.all (fun t=>Tryz.pinned.checked.prog.readableRec t))=true∧(namedTie Tryz.pinned.checked.prog Rows.denoteTurnsRow.named Rows.denoteTurnsSpec.vars)=true∧((Rows.denoteTurnsRow.stops==[]))=true∧((Rows.denoteTurnsRow.knobs==[]))=true∧((Rows.denoteTurnsRow.maps==(Tryz.f7.params.toList++Rows.denoteTurnsSpec.plain.varTypes Tryz.pinned.checked.prog).any (fun t=>Tryz.pinned.checked.prog.mapsRec t)))=true∧((Rows.denoteTurnsRow.ifaces==(Tryz.f7.params.toList++Rows.denoteTurnsSpec.plain.varTypes Tryz.pinned.checked.prog).any (fun t=>Tryz.pinned.checked.prog.ifacesRec t)))=true∧((Rows.denoteTurnsRow.mapsOut==Tryz.pinned.checked.prog.mapsAmong Tryz.f7.resultTypes.toList))=true∧((Rows.denoteTurnsRow.loops==(Tryz.f7.params.toList++Rows.denoteTurnsSpec.plain.varTypes Tryz.pinned.checked.prog).any (fun t=>Tryz.pinned.checked.prog.loopsFrom t)))=true∧((Rows.denoteTurnsRow.wideKeys==(Tryz.f7.params.toList++Rows.denoteTurnsSpec.plain.varTypes Tryz.pinned.checked.prog++Tryz.f7.resultTypes.toList).any (fun t=>Tryz.pinned.checked.prog.wideKeysFrom t)))=true∧(Rows.denoteTurnsSpec.vars.all (fun n=>Tryz.pinned.checked.prog.varReadable n))=true∧(Tryz.f7.resultTypes.all (fun t=>Tryz.pinned.checked.prog.readableRec t&&decide (t<Tryz.pinned.checked.prog.types.size)))=true∧((Rows.denoteTurnsRow.ifacesOut==Tryz.f7.resultTypes.toList.any (fun t=>Tryz.pinned.checked.prog.ifacesRec t)))=true∧((Rows.denoteTurnsRow.loopsOut==Tryz.f7.resultTypes.toList.any (fun t=>Tryz.pinned.checked.prog.loopsFrom t)))=true:=by
 have h:((Rows.denoteTurnsRow.wf (OpenSpec.ofChange Rows.denoteTurnsSpec))&&((Tryz.f7.params.all (fun t=>Tryz.pinned.checked.prog.readableRec t))&&((namedTie Tryz.pinned.checked.prog Rows.denoteTurnsRow.named Rows.denoteTurnsSpec.vars)&&(((Rows.denoteTurnsRow.stops==[]))&&(((Rows.denoteTurnsRow.knobs==[]))&&(((Rows.denoteTurnsRow.maps==(Tryz.f7.params.toList++Rows.denoteTurnsSpec.plain.varTypes Tryz.pinned.checked.prog).any (fun t=>Tryz.pinned.checked.prog.mapsRec t)))&&(((Rows.denoteTurnsRow.ifaces==(Tryz.f7.params.toList++Rows.denoteTurnsSpec.plain.varTypes Tryz.pinned.checked.prog).any (fun t=>Tryz.pinned.checked.prog.ifacesRec t)))&&(((Rows.denoteTurnsRow.mapsOut==Tryz.pinned.checked.prog.mapsAmong Tryz.f7.resultTypes.toList))&&(((Rows.denoteTurnsRow.loops==(Tryz.f7.params.toList++Rows.denoteTurnsSpec.plain.varTypes Tryz.pinned.checked.prog).any (fun t=>Tryz.pinned.checked.prog.loopsFrom t)))&&(((Rows.denoteTurnsRow.wideKeys==(Tryz.f7.params.toList++Rows.denoteTurnsSpec.plain.varTypes Tryz.pinned.checked.prog++Tryz.f7.resultTypes.toList).any (fun t=>Tryz.pinned.checked.prog.wideKeysFrom t)))&&((Rows.denoteTurnsSpec.vars.all (fun n=>Tryz.pinned.checked.prog.varReadable n))&&((Tryz.f7.resultTypes.all (fun t=>Tryz.pinned.checked.prog.readableRec t&&decide (t<Tryz.pinned.checked.prog.types.size)))&&(((Rows.denoteTurnsRow.ifacesOut==Tryz.f7.resultTypes.toList.any (fun t=>Tryz.pinned.checked.prog.ifacesRec t)))&&(((Rows.denoteTurnsRow.loopsOut==Tryz.f7.resultTypes.toList.any (fun t=>Tryz.pinned.checked.prog.loopsFrom t)))))))))))))))))=true:=by kernel_rfl
 simpa only [Bool.and_eq_true] using h
theorem qQ:((Rows.denoteTurnsRow.inPlace==Tryz.pinned.checked.prog.inPlace 7))=true∧((Rows.denoteTurnsRow.unfollowed==Tryz.pinned.checked.prog.unfollowed 7))=true∧((Rows.denoteTurnsRow.recurses==Tryz.pinned.checked.prog.recurses 7))=true∧((Rows.denoteTurnsRow.named==Tryz.pinned.checked.prog.varsNamed 7))=true:=by
 have h:(((Rows.denoteTurnsRow.inPlace==Tryz.pinned.checked.prog.inPlace 7))&&(((Rows.denoteTurnsRow.unfollowed==Tryz.pinned.checked.prog.unfollowed 7))&&(((Rows.denoteTurnsRow.recurses==Tryz.pinned.checked.prog.recurses 7))&&(((Rows.denoteTurnsRow.named==Tryz.pinned.checked.prog.varsNamed 7))))))=true:=by kernel_rfl
 simpa only [Bool.and_eq_true] using h
theorem lr:((Rows.denoteTurnsRow.plainKeys==Tryz.pinned.checked.prog.plainKeys))=true∧(Rows.denoteTurnsRow.shortTexts.isNone)=true∧((Rows.denoteTurnsRow.lifted==Tryz.pinned.checked.prog.liftsFinal))=true∧((Tryz.pinned.checked.prog.make==some Rows.denoteTurnsRow.make))=true∧((Rows.denoteTurnsRow.pinned==Rows.denoteTurnsRow.pinnedBy))=true∧((Rows.denoteTurnsRow.veiled==(Tryz.f7.params.toList++Rows.denoteTurnsSpec.plain.varTypes Tryz.pinned.checked.prog++Tryz.f7.resultTypes.toList).any (fun t=>Tryz.pinned.checked.prog.veiledRec t)))=true∧(Rows.denoteTurnsRow.veiledFits Tryz.pinned.checked.prog Tryz.f7.params.toList (Tryz.f7.params.toList++Rows.denoteTurnsSpec.plain.varTypes Tryz.pinned.checked.prog++Tryz.f7.resultTypes.toList))=true:=by
 have h:(((Rows.denoteTurnsRow.plainKeys==Tryz.pinned.checked.prog.plainKeys))&&((Rows.denoteTurnsRow.shortTexts.isNone)&&(((Rows.denoteTurnsRow.lifted==Tryz.pinned.checked.prog.liftsFinal))&&(((Tryz.pinned.checked.prog.make==some Rows.denoteTurnsRow.make))&&(((Rows.denoteTurnsRow.pinned==Rows.denoteTurnsRow.pinnedBy))&&(((Rows.denoteTurnsRow.veiled==(Tryz.f7.params.toList++Rows.denoteTurnsSpec.plain.varTypes Tryz.pinned.checked.prog++Tryz.f7.resultTypes.toList).any (fun t=>Tryz.pinned.checked.prog.veiledRec t)))&&((Rows.denoteTurnsRow.veiledFits Tryz.pinned.checked.prog Tryz.f7.params.toList (Tryz.f7.params.toList++Rows.denoteTurnsSpec.plain.varTypes Tryz.pinned.checked.prog++Tryz.f7.resultTypes.toList)))))))))=true:=by kernel_rfl
 simpa only [Bool.and_eq_true] using h
theorem zQ:joinedFacts Tryz.pinned.checked.prog 7 Tryz.f7 Rows.denoteTurnsSpec Rows.denoteTurnsRow=true:=by
 unfold joinedFacts
 exact eU (eU (eU (eU (eU (eU (eU (eU (eU (eU (eU (eU (eU (eU (eU (eU (eU (eU (eU (eU (eU (eU (eU (eU (eU (eU (eU (eU (eU (eU (eU (ez.1) (yb.1)) (yb.2.1)) (ez.2.1)) (ez.2.2.1)) (ez.2.2.2.1)) (yb.2.2.1)) (ez.2.2.2.2.1)) (yb.2.2.2.1)) (qQ.1)) (qQ.2.1)) (qQ.2.2.1)) (qQ.2.2.2)) (ez.2.2.2.2.2.1)) (ez.2.2.2.2.2.2.1)) (ez.2.2.2.2.2.2.2.1)) (ez.2.2.2.2.2.2.2.2.1)) (ez.2.2.2.2.2.2.2.2.2.1)) (ez.2.2.2.2.2.2.2.2.2.2.1)) (ez.2.2.2.2.2.2.2.2.2.2.2.1)) (ez.2.2.2.2.2.2.2.2.2.2.2.2.1)) (ez.2.2.2.2.2.2.2.2.2.2.2.2.2)) (lr.1)) (lr.2.1)) (yb.2.2.2.2.1)) (yb.2.2.2.2.2)) (lr.2.2.1)) (lr.2.2.2.1)) (by kernel_rfl)) (lr.2.2.2.2.1)) (lr.2.2.2.2.2.1)) (lr.2.2.2.2.2.2)
theorem B3:Rows.DenoteTurnsSaid:=
 OpenClaim.holds_of_wide 7 Tryz.f7 rfl rfl rfl rfl rfl rfl rfl ⟨rfl,rfl,rfl,rfl,rfl⟩ rfl rfl rfl rfl rfl ui Tryz.func7 zQ
  (of_decide_eq_true (by kernel_rfl)) (by unfold Func.isWrapper;first|(rw [if_pos (by decide+kernel)];kernel_rfl)|(rw [if_neg (by decide+kernel)];exact⟨rfl,rfl⟩))
  (fun os started H enc _=>zP os started H enc)
theorem denoteTurns_card:Rows.DenoteTurnsCardSaid:=
 Claim7.holds_tied_plain_at .later [] [.data] true (true, "85db28590683e9d5afa1430223a94669cccdc8a71b628dceb05087e847db95a3") false
  B3 (fun _ h=>by cases h) (by kernel_rfl) (fun _ h=>by cases h) denoteTurns_row_tie rfl ⟨rfl,rfl⟩ Tv rfl
  (fun f fn hf hfn=>by
   obtain rfl:f=7:=Option.some.inj ((show Tryz.prog.funcNamed "bowsprit/bowspritlaw15.DenoteTurns" =some 7 from ui).symm.trans hf)|>.symm
   obtain rfl:fn=Tryz.f7:=(Option.some.inj (Tryz.func7.symm.trans hfn)).symm
   exact⟨QZ,fun j t ht=>by
    rw [Tryz.params7]at ht
    have hm:t∈[24,27,3]:=by simpa using Array.mem_of_getElem? ht
    have hall:([24,27,3].all fun u=> !Tryz.prog.wantsStandIn u)=true:=by kernel_rfl
    exact(show Tryz.prog.wantsStandIn t=false by simpa using List.all_eq_true.1 hall t hm)⟩)
  B4
#print axioms denoteTurns_card
end Go.Proofs.YtfhhakidodmdfaaGreatDoor

