/- cu of this claim: BindFirst. -/
import Derived.Test.YthbdkceckjihgaaGreatDoorBeA0
import Derived.Test.YthbdkceckjihgaaGreatDoorBeP20
import Derived.Test.YthbdkceckjihgaaGreatDoorBeB23
import Derived.Test.YthbdkceckjihgaaGreatDoorTie
import Derived.Test.YthbdkceckjihgaaGreatDoorCards
import Derived.SevenTiedAt
set_option linter.all false
namespace Go.Proofs.YthbdkceckjihgaaGreatDoor
open Go Go.ChangeShapes Go.WideShapes Go.ChangeAt Go.RowKit

set_option maxRecDepth 100000 in
def BD(os:Os)(started:os.Started)(hb:Type)(enc:TypeId×Value->hb):
  ReturnsInHanded {} Tryz.checked os 4 .any (fun w args=>(Rows.bindFirstSpec.pre enc Tryz.prog Tryz.f4 [] false w args/\laidMetH Tryz.prog Af w)/\sizedMet enc Tryz.prog Tryz.f4 (OpenSpec.ofChange Rows.bindFirstSpec) false w args)
   (Rows.bindFirstSpec.post enc Tryz.prog Tryz.f4 false true false false):=by
 refine returnsInHanded_of_change_and (C:=Tryz.checked) (X:=fun w _=>laidMetH Tryz.prog Af w) (fun _ _ _ hh h=>h.of_heap hh) UT started (by kernel_rfl) Tryz.func4
  (ChangeSpec.witness_shaped (enc:=enc) (C:=Tryz.checked) (os:=os) (X:=fun w _=>laidMetH Tryz.prog Af w) false (World.laidAll Tryz.prog os Af) #[.agg #[.slice none 0 0],.agg #[.slice none 0 0,.slice none 0 0,.int .i64 0],.agg #[.bool false,.bool false,.slice none 0 0,.string ⟨#[]⟩,.string ⟨#[]⟩,.slice none 0 0,.slice none 0 0,.slice none 0 0,.slice none 0 0]] 8 (World.laidAll_os _ _ _) (World.shaped_of_ZipB (by kernel_rfl) (by kernel_rfl)) (by kernel_rfl) (by kernel_rfl) (by kernel_rfl) (Rf os _)) ?_
 intro W base args ds gs before hval0 hW hcnd _ hL _
 have hval: ∀(j:Nat) t v,Tryz.f4.params[j]? =some t->args[j]? =some v->Value.okWide Tryz.prog W .any base t v:=hval0
 have hW' :=hW
 obtain⟨p,q,hA0,hV,hbf,hfz,hnd⟩:=hW
 have hA:DataW.TrodAll enc Tryz.prog W 0 (fun _=>true) true Tryz.f4.params.toList args.toList ds p:=hA0
 have hgs:gs=[]:=by
  cases gs with
  |nil=>rfl
  |cons g gs=>exact hV.elim
 rw [Tryz.params4]at hA hval
 obtain⟨v0,v1,v2,d0,d1,d2,p0,p1,p2,hargs,hds,hps,h0,A,D⟩:=trodAll_three hA
 obtain⟨a0,ha0,ho0⟩:=H5 (Wg enc W) IT rfl h0 (u6 Tryz.underlying24 (hval 0 24 v0 rfl (by rw [hargs];rfl)))
 obtain⟨a1,ha1,ho1⟩:=H5 (Wd enc W) Oj rfl A (u6 Tryz.underlying31 (hval 1 31 v1 rfl (by rw [hargs];rfl)))
 obtain⟨a2,ha2,ho2⟩:=H5 (TQ enc W) DQ rfl D (u6 Tryz.underlying55 (hval 2 55 v2 rfl (by rw [hargs];rfl)))
 have hcall:=WT a0 a1 a2 (Ff a0 a1 a2) W (I8 W) [v0,v1,v2] (UR W (OP hL) (PR hL)) ⟨ha0,ha1,ha2,trivial⟩
 have hargs' :args=[v0,v1,v2].toArray:=hargs
 rw [<-hargs']at hcall
 refine hcall.mono fun e W' ⟨v,S',he,hext,_,hv⟩=>⟨v,he,?_⟩
 rw [i6.1 hv]
 exact QC (tb:=4) Sn (by rw [Tryz.params4];decide+kernel) rfl rfl Tryz.underlying4 hW' (by rw [hgs,hds];rfl) (H3 hext)
def vy:Tryz.pinned.checked.prog.funcNamed Rows.bindFirstRow.func=some 4:=by kernel_rfl
def EX:false=Rows.bindFirstRow.goesBy Tryz.pinned.checked.prog:=by kernel_rfl
def fX:(Rows.bindFirstRow.wf (OpenSpec.ofChange Rows.bindFirstSpec))=true/\(Tryz.f4.params.all (fun t=>Tryz.pinned.checked.prog.readableRec t))=true/\(namedTie Tryz.pinned.checked.prog Rows.bindFirstRow.named Rows.bindFirstSpec.vars)=true/\((Rows.bindFirstRow.stops==[]))=true/\((Rows.bindFirstRow.knobs==[]))=true/\((Rows.bindFirstRow.maps==(Tryz.f4.params.toList++Rows.bindFirstSpec.plain.varTypes Tryz.pinned.checked.prog).any (fun t=>Tryz.pinned.checked.prog.mapsRec t)))=true/\((Rows.bindFirstRow.ifaces==(Tryz.f4.params.toList++Rows.bindFirstSpec.plain.varTypes Tryz.pinned.checked.prog).any (fun t=>Tryz.pinned.checked.prog.ifacesRec t)))=true/\((Rows.bindFirstRow.mapsOut==Tryz.pinned.checked.prog.mapsAmong Tryz.f4.resultTypes.toList))=true/\((Rows.bindFirstRow.loops==(Tryz.f4.params.toList++Rows.bindFirstSpec.plain.varTypes Tryz.pinned.checked.prog).any (fun t=>Tryz.pinned.checked.prog.loopsFrom t)))=true/\((Rows.bindFirstRow.wideKeys==(Tryz.f4.params.toList++Rows.bindFirstSpec.plain.varTypes Tryz.pinned.checked.prog++Tryz.f4.resultTypes.toList).any (fun t=>Tryz.pinned.checked.prog.wideKeysFrom t)))=true/\(Rows.bindFirstSpec.vars.all (fun n=>Tryz.pinned.checked.prog.varReadable n))=true/\(Tryz.f4.resultTypes.all (fun t=>Tryz.pinned.checked.prog.readableRec t&&decide (t<Tryz.pinned.checked.prog.types.size)))=true/\((Rows.bindFirstRow.ifacesOut==Tryz.f4.resultTypes.toList.any (fun t=>Tryz.pinned.checked.prog.ifacesRec t)))=true/\((Rows.bindFirstRow.loopsOut==Tryz.f4.resultTypes.toList.any (fun t=>Tryz.pinned.checked.prog.loopsFrom t)))=true:=by
 have h:((Rows.bindFirstRow.wf (OpenSpec.ofChange Rows.bindFirstSpec))&&((Tryz.f4.params.all (fun t=>Tryz.pinned.checked.prog.readableRec t))&&((namedTie Tryz.pinned.checked.prog Rows.bindFirstRow.named Rows.bindFirstSpec.vars)&&(((Rows.bindFirstRow.stops==[]))&&(((Rows.bindFirstRow.knobs==[]))&&(((Rows.bindFirstRow.maps==(Tryz.f4.params.toList++Rows.bindFirstSpec.plain.varTypes Tryz.pinned.checked.prog).any (fun t=>Tryz.pinned.checked.prog.mapsRec t)))&&(((Rows.bindFirstRow.ifaces==(Tryz.f4.params.toList++Rows.bindFirstSpec.plain.varTypes Tryz.pinned.checked.prog).any (fun t=>Tryz.pinned.checked.prog.ifacesRec t)))&&(((Rows.bindFirstRow.mapsOut==Tryz.pinned.checked.prog.mapsAmong Tryz.f4.resultTypes.toList))&&(((Rows.bindFirstRow.loops==(Tryz.f4.params.toList++Rows.bindFirstSpec.plain.varTypes Tryz.pinned.checked.prog).any (fun t=>Tryz.pinned.checked.prog.loopsFrom t)))&&(((Rows.bindFirstRow.wideKeys==(Tryz.f4.params.toList++Rows.bindFirstSpec.plain.varTypes Tryz.pinned.checked.prog++Tryz.f4.resultTypes.toList).any (fun t=>Tryz.pinned.checked.prog.wideKeysFrom t)))&&((Rows.bindFirstSpec.vars.all (fun n=>Tryz.pinned.checked.prog.varReadable n))&&((Tryz.f4.resultTypes.all (fun t=>Tryz.pinned.checked.prog.readableRec t&&decide (t<Tryz.pinned.checked.prog.types.size)))&&(((Rows.bindFirstRow.ifacesOut==Tryz.f4.resultTypes.toList.any (fun t=>Tryz.pinned.checked.prog.ifacesRec t)))&&(((Rows.bindFirstRow.loopsOut==Tryz.f4.resultTypes.toList.any (fun t=>Tryz.pinned.checked.prog.loopsFrom t)))))))))))))))))=true:=by kernel_rfl
 simpa only [Bool.and_eq_true] using h
def tp:((Rows.bindFirstRow.inPlace==Tryz.pinned.checked.prog.inPlace 4))=true/\((Rows.bindFirstRow.unfollowed==Tryz.pinned.checked.prog.unfollowed 4))=true/\((Rows.bindFirstRow.recurses==Tryz.pinned.checked.prog.recurses 4))=true/\((Rows.bindFirstRow.named==Tryz.pinned.checked.prog.varsNamed 4))=true:=by
 have h:(((Rows.bindFirstRow.inPlace==Tryz.pinned.checked.prog.inPlace 4))&&(((Rows.bindFirstRow.unfollowed==Tryz.pinned.checked.prog.unfollowed 4))&&(((Rows.bindFirstRow.recurses==Tryz.pinned.checked.prog.recurses 4))&&(((Rows.bindFirstRow.named==Tryz.pinned.checked.prog.varsNamed 4))))))=true:=by kernel_rfl
 simpa only [Bool.and_eq_true] using h
def mP:((Rows.bindFirstRow.plainKeys==Tryz.pinned.checked.prog.plainKeys))=true/\(Rows.bindFirstRow.shortTexts.isNone)=true/\((Rows.bindFirstRow.lifted==Tryz.pinned.checked.prog.liftsFinal))=true/\((Tryz.pinned.checked.prog.make==some Rows.bindFirstRow.make))=true/\((Rows.bindFirstRow.pinned==Rows.bindFirstRow.pinnedBy))=true/\((Rows.bindFirstRow.veiled==(Tryz.f4.params.toList++Rows.bindFirstSpec.plain.varTypes Tryz.pinned.checked.prog++Tryz.f4.resultTypes.toList).any (fun t=>Tryz.pinned.checked.prog.veiledRec t)))=true/\(Rows.bindFirstRow.veiledFits Tryz.pinned.checked.prog Tryz.f4.params.toList (Tryz.f4.params.toList++Rows.bindFirstSpec.plain.varTypes Tryz.pinned.checked.prog++Tryz.f4.resultTypes.toList))=true:=by
 have h:(((Rows.bindFirstRow.plainKeys==Tryz.pinned.checked.prog.plainKeys))&&((Rows.bindFirstRow.shortTexts.isNone)&&(((Rows.bindFirstRow.lifted==Tryz.pinned.checked.prog.liftsFinal))&&(((Tryz.pinned.checked.prog.make==some Rows.bindFirstRow.make))&&(((Rows.bindFirstRow.pinned==Rows.bindFirstRow.pinnedBy))&&(((Rows.bindFirstRow.veiled==(Tryz.f4.params.toList++Rows.bindFirstSpec.plain.varTypes Tryz.pinned.checked.prog++Tryz.f4.resultTypes.toList).any (fun t=>Tryz.pinned.checked.prog.veiledRec t)))&&((Rows.bindFirstRow.veiledFits Tryz.pinned.checked.prog Tryz.f4.params.toList (Tryz.f4.params.toList++Rows.bindFirstSpec.plain.varTypes Tryz.pinned.checked.prog++Tryz.f4.resultTypes.toList)))))))))=true:=by kernel_rfl
 simpa only [Bool.and_eq_true] using h
def BE:joinedFacts Tryz.pinned.checked.prog 4 Tryz.f4 Rows.bindFirstSpec Rows.bindFirstRow=true:=by
 unfold joinedFacts
 exact ez (ez (ez (ez (ez (ez (ez (ez (ez (ez (ez (ez (ez (ez (ez (ez (ez (ez (ez (ez (ez (ez (ez (ez (ez (ez (ez (ez (ez (ez (ez (fX.1) (xg.1)) (xg.2.1)) (fX.2.1)) (fX.2.2.1)) (fX.2.2.2.1)) (xg.2.2.1)) (fX.2.2.2.2.1)) (xg.2.2.2.1)) (tp.1)) (tp.2.1)) (tp.2.2.1)) (tp.2.2.2)) (fX.2.2.2.2.2.1)) (fX.2.2.2.2.2.2.1)) (fX.2.2.2.2.2.2.2.1)) (fX.2.2.2.2.2.2.2.2.1)) (fX.2.2.2.2.2.2.2.2.2.1)) (fX.2.2.2.2.2.2.2.2.2.2.1)) (fX.2.2.2.2.2.2.2.2.2.2.2.1)) (fX.2.2.2.2.2.2.2.2.2.2.2.2.1)) (fX.2.2.2.2.2.2.2.2.2.2.2.2.2)) (mP.1)) (mP.2.1)) (xg.2.2.2.2.1)) (xg.2.2.2.2.2)) (mP.2.2.1)) (mP.2.2.2.1)) (by kernel_rfl)) (mP.2.2.2.2.1)) (mP.2.2.2.2.2.1)) (mP.2.2.2.2.2.2)
def EW:Rows.BindFirstSaid:=
 OpenClaim.holds_of_wide 4 Tryz.f4 rfl rfl rfl rfl rfl rfl rfl ⟨rfl,rfl,rfl,rfl,rfl⟩ rfl rfl rfl rfl rfl vy Tryz.func4 BE
  (of_decide_eq_true (by kernel_rfl)) (by unfold Func.isWrapper;first|(rw [if_pos (by decide+kernel)];kernel_rfl)|(rw [if_neg (by decide+kernel)];exact⟨rfl,rfl⟩))
  (fun os started hb enc _=>BD os started hb enc)
theorem bindFirst_card:Rows.BindFirstCardSaid:=
 Claim7.holds_tied_plain_at .later [] [.data,.widerDeep,.data,.pinned,.pinned] true (true, "994ba46e7a82f8141f915d9f3da3b6056a2eae399341bbf3229131cb61b0b052") false
  EW (fun _ h=>by cases h) (by kernel_rfl) (fun _ h=>by cases h) bindFirst_row_tie rfl ⟨rfl,rfl⟩ Sf rfl
  (fun f fn hf hfn=>by
   obtain rfl:f=4:=Option.some.inj ((show Tryz.prog.funcNamed "bowsprit/bowspritlaw12.BindFirst" =some 4 from vy).symm.trans hf)|>.symm
   obtain rfl:fn=Tryz.f4:=(Option.some.inj (Tryz.func4.symm.trans hfn)).symm
   exact⟨Qm,fun j t M=>by
    rw [Tryz.params4]at M
    have hm:t∈[24,31,55]:=by simpa using Array.mem_of_getElem? M
    have hall:([24,31,55].all fun u=> !Tryz.prog.wantsStandIn u)=true:=by kernel_rfl
    exact(show Tryz.prog.wantsStandIn t=false by simpa using List.all_eq_true.1 hall t hm)⟩)
  EX
#print axioms bindFirst_card
end Go.Proofs.YthbdkceckjihgaaGreatDoor

