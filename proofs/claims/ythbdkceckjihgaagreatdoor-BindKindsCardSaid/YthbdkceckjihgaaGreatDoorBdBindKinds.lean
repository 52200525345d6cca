/- cm of this claim: BindKinds. -/
import Derived.Test.YthbdkceckjihgaaGreatDoorBdA0
import Derived.Test.YthbdkceckjihgaaGreatDoorBdP21
import Derived.Test.YthbdkceckjihgaaGreatDoorBdB22
import Derived.Test.YthbdkceckjihgaaGreatDoorTie
import Derived.Test.YthbdkceckjihgaaGreatDoorCards
import Derived.SevenTiedAt
set_option linter.all false
namespace Go.Proofs.YthbdkceckjihgaaGreatDoor
open Go Go.ChangeShapes Go.WideShapes Go.ChangeAt Go.RowKit

set_option maxRecDepth 100000 in
def Ai(os:Os)(started:os.Started)(hb:Type)(enc:TypeId×Value->hb):
  ReturnsInHanded {} Tryz.checked os 5 .any (fun w args=>(Rows.bindKindsSpec.pre enc Tryz.prog Tryz.f5 [] false w args/\laidMetH Tryz.prog yu w)/\sizedMet enc Tryz.prog Tryz.f5 (OpenSpec.ofChange Rows.bindKindsSpec) false w args)
   (Rows.bindKindsSpec.post enc Tryz.prog Tryz.f5 false true false false):=by
 refine returnsInHanded_of_change_and (C:=Tryz.checked) (X:=fun w _=>laidMetH Tryz.prog yu w) (fun _ _ _ hh h=>h.of_heap hh) Tn started (by kernel_rfl) Tryz.func5
  (ChangeSpec.witness_shaped (enc:=enc) (C:=Tryz.checked) (os:=os) (X:=fun w _=>laidMetH Tryz.prog yu w) false (World.laidAll Tryz.prog os yu) #[.agg #[.slice none 0 0],.agg #[.slice none 0 0,.slice none 0 0,.int .i64 0]] 8 (World.laidAll_os _ _ _) (World.shaped_of_ZipB (by kernel_rfl) (by kernel_rfl)) (by kernel_rfl) (by kernel_rfl) (by kernel_rfl) (Pu os _)) ?_
 intro W base args ds gs before hval0 hW hcnd _ hL _
 have hval: ∀(j:Nat) t v,Tryz.f5.params[j]? =some t->args[j]? =some v->Value.okWide Tryz.prog W .any base t v:=hval0
 have hW' :=hW
 obtain⟨p,q,hA0,hV,hbf,hfz,hnd⟩:=hW
 have hA:DataW.TrodAll enc Tryz.prog W 0 (fun _=>true) true Tryz.f5.params.toList args.toList ds p:=hA0
 have hgs:gs=[]:=by
  cases gs with
  |nil=>rfl
  |cons g gs=>exact hV.elim
 rw [Tryz.params5]at hA hval
 obtain⟨v0,v1,d0,d1,p0,p1,hargs,hds,hps,h0,A⟩:=trodAll_two hA
 obtain⟨a0,ha0,ho0⟩:=LL (U3 enc W) Hw rfl h0 (yV Tryz.underlying24 (hval 0 24 v0 rfl (by rw [hargs];rfl)))
 obtain⟨a1,ha1,ho1⟩:=LL (U0 enc W) Mz rfl A (yV Tryz.underlying31 (hval 1 31 v1 rfl (by rw [hargs];rfl)))
 have hcall:=VG a0 a1 (DL a0 a1) W (HN W) [v0,v1] (Tk W (MY hL) (N4 hL)) ⟨ha0,ha1,trivial⟩
 have hargs' :args=[v0,v1].toArray:=hargs
 rw [<-hargs']at hcall
 refine hcall.mono fun e W' ⟨v,S',he,hext,_,hv⟩=>⟨v,he,?_⟩
 rw [iP.1 hv]
 exact OO (tb:=4) QM (by rw [Tryz.params5];decide+kernel) rfl rfl Tryz.underlying4 hW' (by rw [hgs,hds];rfl) (GB hext)
def uf:Tryz.pinned.checked.prog.funcNamed Rows.bindKindsRow.func=some 5:=by kernel_rfl
def Dt:false=Rows.bindKindsRow.goesBy Tryz.pinned.checked.prog:=by kernel_rfl
def fM:(Rows.bindKindsRow.wf (OpenSpec.ofChange Rows.bindKindsSpec))=true/\(Tryz.f5.params.all (fun t=>Tryz.pinned.checked.prog.readableRec t))=true/\(namedTie Tryz.pinned.checked.prog Rows.bindKindsRow.named Rows.bindKindsSpec.vars)=true/\((Rows.bindKindsRow.stops==[]))=true/\((Rows.bindKindsRow.knobs==[]))=true/\((Rows.bindKindsRow.maps==(Tryz.f5.params.toList++Rows.bindKindsSpec.plain.varTypes Tryz.pinned.checked.prog).any (fun t=>Tryz.pinned.checked.prog.mapsRec t)))=true/\((Rows.bindKindsRow.ifaces==(Tryz.f5.params.toList++Rows.bindKindsSpec.plain.varTypes Tryz.pinned.checked.prog).any (fun t=>Tryz.pinned.checked.prog.ifacesRec t)))=true/\((Rows.bindKindsRow.mapsOut==Tryz.pinned.checked.prog.mapsAmong Tryz.f5.resultTypes.toList))=true/\((Rows.bindKindsRow.loops==(Tryz.f5.params.toList++Rows.bindKindsSpec.plain.varTypes Tryz.pinned.checked.prog).any (fun t=>Tryz.pinned.checked.prog.loopsFrom t)))=true/\((Rows.bindKindsRow.wideKeys==(Tryz.f5.params.toList++Rows.bindKindsSpec.plain.varTypes Tryz.pinned.checked.prog++Tryz.f5.resultTypes.toList).any (fun t=>Tryz.pinned.checked.prog.wideKeysFrom t)))=true/\(Rows.bindKindsSpec.vars.all (fun n=>Tryz.pinned.checked.prog.varReadable n))=true/\(Tryz.f5.resultTypes.all (fun t=>Tryz.pinned.checked.prog.readableRec t&&decide (t<Tryz.pinned.checked.prog.types.size)))=true/\((Rows.bindKindsRow.ifacesOut==Tryz.f5.resultTypes.toList.any (fun t=>Tryz.pinned.checked.prog.ifacesRec t)))=true/\((Rows.bindKindsRow.loopsOut==Tryz.f5.resultTypes.toList.any (fun t=>Tryz.pinned.checked.prog.loopsFrom t)))=true:=by
 have h:((Rows.bindKindsRow.wf (OpenSpec.ofChange Rows.bindKindsSpec))&&((Tryz.f5.params.all (fun t=>Tryz.pinned.checked.prog.readableRec t))&&((namedTie Tryz.pinned.checked.prog Rows.bindKindsRow.named Rows.bindKindsSpec.vars)&&(((Rows.bindKindsRow.stops==[]))&&(((Rows.bindKindsRow.knobs==[]))&&(((Rows.bindKindsRow.maps==(Tryz.f5.params.toList++Rows.bindKindsSpec.plain.varTypes Tryz.pinned.checked.prog).any (fun t=>Tryz.pinned.checked.prog.mapsRec t)))&&(((Rows.bindKindsRow.ifaces==(Tryz.f5.params.toList++Rows.bindKindsSpec.plain.varTypes Tryz.pinned.checked.prog).any (fun t=>Tryz.pinned.checked.prog.ifacesRec t)))&&(((Rows.bindKindsRow.mapsOut==Tryz.pinned.checked.prog.mapsAmong Tryz.f5.resultTypes.toList))&&(((Rows.bindKindsRow.loops==(Tryz.f5.params.toList++Rows.bindKindsSpec.plain.varTypes Tryz.pinned.checked.prog).any (fun t=>Tryz.pinned.checked.prog.loopsFrom t)))&&(((Rows.bindKindsRow.wideKeys==(Tryz.f5.params.toList++Rows.bindKindsSpec.plain.varTypes Tryz.pinned.checked.prog++Tryz.f5.resultTypes.toList).any (fun t=>Tryz.pinned.checked.prog.wideKeysFrom t)))&&((Rows.bindKindsSpec.vars.all (fun n=>Tryz.pinned.checked.prog.varReadable n))&&((Tryz.f5.resultTypes.all (fun t=>Tryz.pinned.checked.prog.readableRec t&&decide (t<Tryz.pinned.checked.prog.types.size)))&&(((Rows.bindKindsRow.ifacesOut==Tryz.f5.resultTypes.toList.any (fun t=>Tryz.pinned.checked.prog.ifacesRec t)))&&(((Rows.bindKindsRow.loopsOut==Tryz.f5.resultTypes.toList.any (fun t=>Tryz.pinned.checked.prog.loopsFrom t)))))))))))))))))=true:=by kernel_rfl
 simpa only [Bool.and_eq_true] using h
def rN:((Rows.bindKindsRow.inPlace==Tryz.pinned.checked.prog.inPlace 5))=true/\((Rows.bindKindsRow.unfollowed==Tryz.pinned.checked.prog.unfollowed 5))=true/\((Rows.bindKindsRow.recurses==Tryz.pinned.checked.prog.recurses 5))=true/\((Rows.bindKindsRow.named==Tryz.pinned.checked.prog.varsNamed 5))=true:=by
 have h:(((Rows.bindKindsRow.inPlace==Tryz.pinned.checked.prog.inPlace 5))&&(((Rows.bindKindsRow.unfollowed==Tryz.pinned.checked.prog.unfollowed 5))&&(((Rows.bindKindsRow.recurses==Tryz.pinned.checked.prog.recurses 5))&&(((Rows.bindKindsRow.named==Tryz.pinned.checked.prog.varsNamed 5))))))=true:=by kernel_rfl
 simpa only [Bool.and_eq_true] using h
def my:((Rows.bindKindsRow.plainKeys==Tryz.pinned.checked.prog.plainKeys))=true/\(Rows.bindKindsRow.shortTexts.isNone)=true/\((Rows.bindKindsRow.lifted==Tryz.pinned.checked.prog.liftsFinal))=true/\((Tryz.pinned.checked.prog.make==some Rows.bindKindsRow.make))=true/\((Rows.bindKindsRow.pinned==Rows.bindKindsRow.pinnedBy))=true/\((Rows.bindKindsRow.veiled==(Tryz.f5.params.toList++Rows.bindKindsSpec.plain.varTypes Tryz.pinned.checked.prog++Tryz.f5.resultTypes.toList).any (fun t=>Tryz.pinned.checked.prog.veiledRec t)))=true/\(Rows.bindKindsRow.veiledFits Tryz.pinned.checked.prog Tryz.f5.params.toList (Tryz.f5.params.toList++Rows.bindKindsSpec.plain.varTypes Tryz.pinned.checked.prog++Tryz.f5.resultTypes.toList))=true:=by
 have h:(((Rows.bindKindsRow.plainKeys==Tryz.pinned.checked.prog.plainKeys))&&((Rows.bindKindsRow.shortTexts.isNone)&&(((Rows.bindKindsRow.lifted==Tryz.pinned.checked.prog.liftsFinal))&&(((Tryz.pinned.checked.prog.make==some Rows.bindKindsRow.make))&&(((Rows.bindKindsRow.pinned==Rows.bindKindsRow.pinnedBy))&&(((Rows.bindKindsRow.veiled==(Tryz.f5.params.toList++Rows.bindKindsSpec.plain.varTypes Tryz.pinned.checked.prog++Tryz.f5.resultTypes.toList).any (fun t=>Tryz.pinned.checked.prog.veiledRec t)))&&((Rows.bindKindsRow.veiledFits Tryz.pinned.checked.prog Tryz.f5.params.toList (Tryz.f5.params.toList++Rows.bindKindsSpec.plain.varTypes Tryz.pinned.checked.prog++Tryz.f5.resultTypes.toList)))))))))=true:=by kernel_rfl
 simpa only [Bool.and_eq_true] using h
def Aj:joinedFacts Tryz.pinned.checked.prog 5 Tryz.f5 Rows.bindKindsSpec Rows.bindKindsRow=true:=by
 unfold joinedFacts
 exact eB (eB (eB (eB (eB (eB (eB (eB (eB (eB (eB (eB (eB (eB (eB (eB (eB (eB (eB (eB (eB (eB (eB (eB (eB (eB (eB (eB (eB (eB (eB (fM.1) (vF.1)) (vF.2.1)) (fM.2.1)) (fM.2.2.1)) (fM.2.2.2.1)) (vF.2.2.1)) (fM.2.2.2.2.1)) (vF.2.2.2.1)) (rN.1)) (rN.2.1)) (rN.2.2.1)) (rN.2.2.2)) (fM.2.2.2.2.2.1)) (fM.2.2.2.2.2.2.1)) (fM.2.2.2.2.2.2.2.1)) (fM.2.2.2.2.2.2.2.2.1)) (fM.2.2.2.2.2.2.2.2.2.1)) (fM.2.2.2.2.2.2.2.2.2.2.1)) (fM.2.2.2.2.2.2.2.2.2.2.2.1)) (fM.2.2.2.2.2.2.2.2.2.2.2.2.1)) (fM.2.2.2.2.2.2.2.2.2.2.2.2.2)) (my.1)) (my.2.1)) (vF.2.2.2.2.1)) (vF.2.2.2.2.2)) (my.2.2.1)) (my.2.2.2.1)) (by kernel_rfl)) (my.2.2.2.2.1)) (my.2.2.2.2.2.1)) (my.2.2.2.2.2.2)
def Dr:Rows.BindKindsSaid:=
 OpenClaim.holds_of_wide 5 Tryz.f5 rfl rfl rfl rfl rfl rfl rfl ⟨rfl,rfl,rfl,rfl,rfl⟩ rfl rfl rfl rfl rfl uf Tryz.func5 Aj
  (of_decide_eq_true (by kernel_rfl)) (by unfold Func.isWrapper;first|(rw [if_pos (by decide+kernel)];kernel_rfl)|(rw [if_neg (by decide+kernel)];exact⟨rfl,rfl⟩))
  (fun os started hb enc _=>Ai os started hb enc)
theorem bindKinds_card:Rows.BindKindsCardSaid:=
 Claim7.holds_tied_plain_at .later [] [.data,.widerDeep,.data,.pinned,.pinned] true (true, "994ba46e7a82f8141f915d9f3da3b6056a2eae399341bbf3229131cb61b0b052") false
  Dr (fun _ h=>by cases h) (by kernel_rfl) (fun _ h=>by cases h) bindKinds_row_tie rfl ⟨rfl,rfl⟩ QE rfl
  (fun f fn hf hfn=>by
   obtain rfl:f=5:=Option.some.inj ((show Tryz.prog.funcNamed "bowsprit/bowspritlaw12.BindKinds" =some 5 from uf).symm.trans hf)|>.symm
   obtain rfl:fn=Tryz.f5:=(Option.some.inj (Tryz.func5.symm.trans hfn)).symm
   exact⟨Oy,fun j t M=>by
    rw [Tryz.params5]at M
    have hm:t∈[24,31]:=by simpa using Array.mem_of_getElem? M
    have hall:([24,31].all fun u=> !Tryz.prog.wantsStandIn u)=true:=by kernel_rfl
    exact(show Tryz.prog.wantsStandIn t=false by simpa using List.all_eq_true.1 hall t hm)⟩)
  Dt
#print axioms bindKinds_card
end Go.Proofs.YthbdkceckjihgaaGreatDoor

