/- da of this claim: DenoteSorts. -/
import Derived.Test.YtfhhakidodmdfaaGreatDoorJdA0
import Derived.Test.YtfhhakidodmdfaaGreatDoorJdP23
import Derived.Test.YtfhhakidodmdfaaGreatDoorJdJX
import Derived.Test.YtfhhakidodmdfaaGreatDoorTie
import Derived.Test.YtfhhakidodmdfaaGreatDoorCards
import Derived.SevenTiedAt
set_option linter.all false
namespace Go.Proofs.YtfhhakidodmdfaaGreatDoor
open Go Go.ChangeShapes Go.WideShapes Go.ChangeAt Go.RowKit

set_option maxRecDepth 100000 in
theorem zI(os:Os)(started:os.Started)(H:Type)(enc:TypeId×Value→H):
  ReturnsInHanded {} Tryz.checked os 6 .any (fun w args=>(Rows.denoteSortsSpec.pre enc Tryz.prog Tryz.f6 [] false w args∧laidMetH Tryz.prog JN w)∧sizedMet enc Tryz.prog Tryz.f6 (OpenSpec.ofChange Rows.denoteSortsSpec) false w args)
   (Rows.denoteSortsSpec.post enc Tryz.prog Tryz.f6 false true false false):=by
 refine returnsInHanded_of_change_and (C:=Tryz.checked) (X:=fun w _=>laidMetH Tryz.prog JN w) (fun _ _ _ hh h=>h.of_heap hh) Xg started (by kernel_rfl) Tryz.func6
  (ChangeSpec.witness_shaped (enc:=enc) (C:=Tryz.checked) (os:=os) (X:=fun w _=>laidMetH Tryz.prog JN w) false (World.doorLaid Tryz.prog 400 os) #[.slice none 0 0,.slice none 0 0,.int .i64 0] 8 rfl (World.shaped_of_RefB (by kernel_rfl) (by kernel_rfl)) (by kernel_rfl) (by kernel_rfl) (by kernel_rfl) (R2 os _)) ?_
 intro W base args ds gs before hval0 hW hcnd _ hL _
 have hval: ∀(j:Nat) t v,Tryz.f6.params[j]? =some t→args[j]? =some v→Value.okWide Tryz.prog W .any base t v:=hval0
 have hW' :=hW
 obtain⟨p,q,hA0,hV,hbf,hfz,hnd⟩:=hW
 have hA:DataW.TrodAll enc Tryz.prog W 0 (fun _=>true) true Tryz.f6.params.toList args.toList ds p:=hA0
 have hgs:gs=[]:=by
  cases gs with
  |nil=>rfl
  |cons g gs=>exact hV.elim
 rw [Tryz.params6]at hA hval
 obtain⟨v0,v1,v2,d0,d1,d2,p0,p1,p2,hargs,hds,hps,h0,h1,h2⟩:=trodAll_three hA
 obtain⟨a0,ha0,ho0⟩:=Iv (YJ enc W) (LS (LS Pd)) rfl h0 (CH Tryz.underlying32 (hval 0 32 v0 rfl (by rw [hargs];rfl)))
 obtain⟨a1,ha1,ho1⟩:=Iv (YF enc W) (LS Tk) rfl h1 (CH Tryz.underlying57 (hval 1 57 v1 rfl (by rw [hargs];rfl)))
 obtain⟨a2,ha2,ho2⟩:=Iv (WZ enc W) zr rfl h2 (PL Tryz.underlying3 (hval 2 3 v2 rfl (by rw [hargs];rfl)))
 have hcall:=Zh a0 a1 a2 (A6 a0 a1 a2) W (HT W) [v0,v1,v2] (Xa W (Pv hL) (fun _ _=>trivial)) ⟨ha0,ha1,ha2,trivial⟩
 have hargs' :args=[v0,v1,v2].toArray:=hargs
 rw [←hargs']at hcall
 refine hcall.mono fun e W' ⟨v,S',he,hext,_,hv⟩=>⟨v,he,?_⟩
 rw [iK.1 hv]
 exact Q7 (tb:=4) TJ (by rw [Tryz.params6];decide+kernel) rfl rfl Tryz.underlying4 hW' (by rw [hgs,hds];rfl) (Is hext)
theorem ub:Tryz.pinned.checked.prog.funcNamed Rows.denoteSortsRow.func=some 6:=by kernel_rfl
theorem BV:false=Rows.denoteSortsRow.goesBy Tryz.pinned.checked.prog:=by kernel_rfl
theorem eM:(Rows.denoteSortsRow.wf (OpenSpec.ofChange Rows.denoteSortsSpec))=true∧(Tryz.f6.params.all (fun t=>Tryz.pinned.checked.prog.readableRec t))=true∧(namedTie Tryz.pinned.checked.prog Rows.denoteSortsRow.named Rows.denoteSortsSpec.vars)=true∧((Rows.denoteSortsRow.stops==[]))=true∧((Rows.denoteSortsRow.knobs==[]))=true∧((Rows.denoteSortsRow.maps==(Tryz.f6.params.toList++Rows.denoteSortsSpec.plain.varTypes Tryz.pinned.checked.prog).any (fun t=>Tryz.pinned.checked.prog.mapsRec t)))=true∧((Rows.denoteSortsRow.ifaces==(Tryz.f6.params.toList++Rows.denoteSortsSpec.plain.varTypes Tryz.pinned.checked.prog).any (fun t=>Tryz.pinned.checked.prog.ifacesRec t)))=true∧((Rows.denoteSortsRow.mapsOut==Tryz.pinned.checked.prog.mapsAmong Tryz.f6.resultTypes.toList))=true∧((Rows.denoteSortsRow.loops==(Tryz.f6.params.toList++Rows.denoteSortsSpec.plain.varTypes Tryz.pinned.checked.prog).any (fun t=>Tryz.pinned.checked.prog.loopsFrom t)))=true∧((Rows.denoteSortsRow.wideKeys==(Tryz.f6.params.toList++Rows.denoteSortsSpec.plain.varTypes Tryz.pinned.checked.prog++Tryz.f6.resultTypes.toList).any (fun t=>Tryz.pinned.checked.prog.wideKeysFrom t)))=true∧(Rows.denoteSortsSpec.vars.all (fun n=>Tryz.pinned.checked.prog.varReadable n))=true∧(Tryz.f6.resultTypes.all (fun t=>Tryz.pinned.checked.prog.readableRec t&&decide (t<Tryz.pinned.checked.prog.types.size)))=true∧((Rows.denoteSortsRow.ifacesOut==Tryz.f6.resultTypes.toList.any (fun t=>Tryz.pinned.checked.prog.ifacesRec t)))=true∧((Rows.denoteSortsRow.loopsOut==Tryz.f6.resultTypes.toList.any (fun t=>Tryz.pinned.checked.prog.loopsFrom t)))=true:=by
 have h:((Rows.denoteSortsRow.wf (OpenSpec.ofChange Rows.denoteSortsSpec))&&((Tryz.f6.params.all (fun t=>Tryz.pinned.checked.prog.readableRec t))&&((namedTie Tryz.pinned.checked.prog Rows.denoteSortsRow.named Rows.denoteSortsSpec.vars)&&(((Rows.denoteSortsRow.stops==[]))&&(((Rows.denoteSortsRow.knobs==[]))&&(((Rows.denoteSortsRow.maps==(Tryz.f6.params.toList++Rows.denoteSortsSpec.plain.varTypes Tryz.pinned.checked.prog).any (fun t=>Tryz.pinned.checked.prog.mapsRec t)))&&(((Rows.denoteSortsRow.ifaces==(Tryz.f6.params.toList++Rows.denoteSortsSpec.plain.varTypes Tryz.pinned.checked.prog).any (fun t=>Tryz.pinned.checked.prog.ifacesRec t)))&&(((Rows.denoteSortsRow.mapsOut==Tryz.pinned.checked.prog.mapsAmong Tryz.f6.resultTypes.toList))&&(((Rows.denoteSortsRow.loops==(Tryz.f6.params.toList++Rows.denoteSortsSpec.plain.varTypes Tryz.pinned.checked.prog).any (fun t=>Tryz.pinned.checked.prog.loopsFrom t)))&&(((Rows.denoteSortsRow.wideKeys==(Tryz.f6.params.toList++Rows.denoteSortsSpec.plain.varTypes Tryz.pinned.checked.prog++Tryz.f6.resultTypes.toList).any (fun t=>Tryz.pinned.checked.prog.wideKeysFrom t)))&&((Rows.denoteSortsSpec.vars.all (fun n=>Tryz.pinned.checked.prog.varReadable n))&&((Tryz.f6.resultTypes.all (fun t=>Tryz.pinned.checked.prog.readableRec t&&decide (t<Tryz.pinned.checked.prog.types.size)))&&(((Rows.denoteSortsRow.ifacesOut==Tryz.f6.resultTypes.toList.any (fun t=>Tryz.pinned.checked.prog.ifacesRec t)))&&(((Rows.denoteSortsRow.loopsOut==Tryz.f6.resultTypes.toList.any (fun t=>Tryz.pinned.checked.prog.loopsFrom t)))))))))))))))))=true:=by kernel_rfl
 simpa only [Bool.and_eq_true] using h
theorem qK:((Rows.denoteSortsRow.inPlace==Tryz.pinned.checked.prog.inPlace 6))=true∧((Rows.denoteSortsRow.unfollowed==Tryz.pinned.checked.prog.unfollowed 6))=true∧((Rows.denoteSortsRow.recurses==Tryz.pinned.checked.prog.recurses 6))=true∧((Rows.denoteSortsRow.named==Tryz.pinned.checked.prog.varsNamed 6))=true:=by
 have h:(((Rows.denoteSortsRow.inPlace==Tryz.pinned.checked.prog.inPlace 6))&&(((Rows.denoteSortsRow.unfollowed==Tryz.pinned.checked.prog.unfollowed 6))&&(((Rows.denoteSortsRow.recurses==Tryz.pinned.checked.prog.recurses 6))&&(((Rows.denoteSortsRow.named==Tryz.pinned.checked.prog.varsNamed 6))))))=true:=by kernel_rfl
 simpa only [Bool.and_eq_true] using h
theorem li:((Rows.denoteSortsRow.plainKeys==Tryz.pinned.checked.prog.plainKeys))=true∧(Rows.denoteSortsRow.shortTexts.isNone)=true∧((Rows.denoteSortsRow.lifted==Tryz.pinned.checked.prog.liftsFinal))=true∧((Tryz.pinned.checked.prog.make==some Rows.denoteSortsRow.make))=true∧((Rows.denoteSortsRow.pinned==Rows.denoteSortsRow.pinnedBy))=true∧((Rows.denoteSortsRow.veiled==(Tryz.f6.params.toList++Rows.denoteSortsSpec.plain.varTypes Tryz.pinned.checked.prog++Tryz.f6.resultTypes.toList).any (fun t=>Tryz.pinned.checked.prog.veiledRec t)))=true∧(Rows.denoteSortsRow.veiledFits Tryz.pinned.checked.prog Tryz.f6.params.toList (Tryz.f6.params.toList++Rows.denoteSortsSpec.plain.varTypes Tryz.pinned.checked.prog++Tryz.f6.resultTypes.toList))=true:=by
 have h:(((Rows.denoteSortsRow.plainKeys==Tryz.pinned.checked.prog.plainKeys))&&((Rows.denoteSortsRow.shortTexts.isNone)&&(((Rows.denoteSortsRow.lifted==Tryz.pinned.checked.prog.liftsFinal))&&(((Tryz.pinned.checked.prog.make==some Rows.denoteSortsRow.make))&&(((Rows.denoteSortsRow.pinned==Rows.denoteSortsRow.pinnedBy))&&(((Rows.denoteSortsRow.veiled==(Tryz.f6.params.toList++Rows.denoteSortsSpec.plain.varTypes Tryz.pinned.checked.prog++Tryz.f6.resultTypes.toList).any (fun t=>Tryz.pinned.checked.prog.veiledRec t)))&&((Rows.denoteSortsRow.veiledFits Tryz.pinned.checked.prog Tryz.f6.params.toList (Tryz.f6.params.toList++Rows.denoteSortsSpec.plain.varTypes Tryz.pinned.checked.prog++Tryz.f6.resultTypes.toList)))))))))=true:=by kernel_rfl
 simpa only [Bool.and_eq_true] using h
theorem zJ:joinedFacts Tryz.pinned.checked.prog 6 Tryz.f6 Rows.denoteSortsSpec Rows.denoteSortsRow=true:=by
 unfold joinedFacts
 exact fd (fd (fd (fd (fd (fd (fd (fd (fd (fd (fd (fd (fd (fd (fd (fd (fd (fd (fd (fd (fd (fd (fd (fd (fd (fd (fd (fd (fd (fd (fd (eM.1) (xN.1)) (xN.2.1)) (eM.2.1)) (eM.2.2.1)) (eM.2.2.2.1)) (xN.2.2.1)) (eM.2.2.2.2.1)) (xN.2.2.2.1)) (qK.1)) (qK.2.1)) (qK.2.2.1)) (qK.2.2.2)) (eM.2.2.2.2.2.1)) (eM.2.2.2.2.2.2.1)) (eM.2.2.2.2.2.2.2.1)) (eM.2.2.2.2.2.2.2.2.1)) (eM.2.2.2.2.2.2.2.2.2.1)) (eM.2.2.2.2.2.2.2.2.2.2.1)) (eM.2.2.2.2.2.2.2.2.2.2.2.1)) (eM.2.2.2.2.2.2.2.2.2.2.2.2.1)) (eM.2.2.2.2.2.2.2.2.2.2.2.2.2)) (li.1)) (li.2.1)) (xN.2.2.2.2.1)) (xN.2.2.2.2.2)) (li.2.2.1)) (li.2.2.2.1)) (by kernel_rfl)) (li.2.2.2.2.1)) (li.2.2.2.2.2.1)) (li.2.2.2.2.2.2)
theorem BU:Rows.DenoteSortsSaid:=
 OpenClaim.holds_of_wide 6 Tryz.f6 rfl rfl rfl rfl rfl rfl rfl ⟨rfl,rfl,rfl,rfl,rfl⟩ rfl rfl rfl rfl rfl ub Tryz.func6 zJ
  (of_decide_eq_true (by kernel_rfl)) (by unfold Func.isWrapper;first|(rw [if_pos (by decide+kernel)];kernel_rfl)|(rw [if_neg (by decide+kernel)];exact⟨rfl,rfl⟩))
  (fun os started H enc _=>zI os started H enc)
theorem denoteSorts_card:Rows.DenoteSortsCardSaid:=
 Claim7.holds_tied_plain_at .later [] [.data] true (true, "85db28590683e9d5afa1430223a94669cccdc8a71b628dceb05087e847db95a3") false
  BU (fun _ h=>by cases h) (by kernel_rfl) (fun _ h=>by cases h) denoteSorts_row_tie rfl ⟨rfl,rfl⟩ Tl rfl
  (fun f fn hf hfn=>by
   obtain rfl:f=6:=Option.some.inj ((show Tryz.prog.funcNamed "bowsprit/bowspritlaw15.DenoteSorts" =some 6 from ub).symm.trans hf)|>.symm
   obtain rfl:fn=Tryz.f6:=(Option.some.inj (Tryz.func6.symm.trans hfn)).symm
   exact⟨QO,fun j t ht=>by
    rw [Tryz.params6]at ht
    have hm:t∈[32,57,3]:=by simpa using Array.mem_of_getElem? ht
    have hall:([32,57,3].all fun u=> !Tryz.prog.wantsStandIn u)=true:=by kernel_rfl
    exact(show Tryz.prog.wantsStandIn t=false by simpa using List.all_eq_true.1 hall t hm)⟩)
  BV
#print axioms denoteSorts_card
end Go.Proofs.YtfhhakidodmdfaaGreatDoor

