/- du of this claim: BindSame. -/
import Derived.Test.YthbdkceckjihgaaGreatDoorBbA0
import Derived.Test.YthbdkceckjihgaaGreatDoorBbP21
import Derived.Test.YthbdkceckjihgaaGreatDoorBbB20
import Derived.Test.YthbdkceckjihgaaGreatDoorTie
import Derived.Test.YthbdkceckjihgaaGreatDoorCards
import Derived.SevenTiedAt
set_option linter.all false
namespace Go.Proofs.YthbdkceckjihgaaGreatDoor
open Go Go.ChangeShapes Go.WideShapes Go.ChangeAt Go.RowKit

set_option maxRecDepth 100000 in
def Fs(os:Os)(started:os.Started)(tD:Type)(enc:TypeId×Value->tD):
  ReturnsInHanded {} Tryz.checked os 6 .any (fun w args=>(Rows.bindSameSpec.pre enc Tryz.prog Tryz.f6 [] false w args/\laidMetH Tryz.prog CW w)/\sizedMet enc Tryz.prog Tryz.f6 (OpenSpec.ofChange Rows.bindSameSpec) false w args)
   (Rows.bindSameSpec.post enc Tryz.prog Tryz.f6 false true false false):=by
 refine returnsInHanded_of_change_and (C:=Tryz.checked) (X:=fun w _=>laidMetH Tryz.prog CW w) (fun _ _ _ hh h=>h.of_heap hh) X7 started (by kernel_rfl) Tryz.func6
  (ChangeSpec.witness_shaped (enc:=enc) (C:=Tryz.checked) (os:=os) (X:=fun w _=>laidMetH Tryz.prog CW w) false (World.laidAll Tryz.prog os CW) #[.agg #[.slice none 0 0],.agg #[.slice none 0 0,.slice none 0 0,.int .i64 0],.agg #[.slice none 0 0,.slice none 0 0,.int .i64 0]] 8 (World.laidAll_os _ _ _) (World.shaped_of_ZipB (by kernel_rfl) (by kernel_rfl)) (by kernel_rfl) (by kernel_rfl) (by kernel_rfl) (TN os _)) ?_
 intro W base args ds gs before hval0 hW hcnd _ hL _
 have hval: ∀(j:Nat) t v,Tryz.f6.params[j]? =some t->args[j]? =some v->Value.okWide Tryz.prog W .any base t v:=hval0
 have hW' :=hW
 obtain⟨p,q,hA0,hV,hbf,hfz,hnd⟩:=hW
 have hA:DataW.TrodAll enc Tryz.prog W 0 (fun _=>true) true Tryz.f6.params.toList args.toList ds p:=hA0
 have hgs:gs=[]:=by
  cases gs with
  |nil=>rfl
  |cons g gs=>exact hV.elim
 rw [Tryz.params6]at hA hval
 obtain⟨v0,v1,v2,d0,d1,d2,p0,p1,p2,hargs,hds,hps,h0,V,Z⟩:=trodAll_three hA
 obtain⟨a0,ha0,ho0⟩:=Ks (ZM enc W) Lo rfl h0 (yr Tryz.underlying24 (hval 0 24 v0 rfl (by rw [hargs];rfl)))
 obtain⟨a1,ha1,ho1⟩:=Ks (WU enc W) IM rfl V (yr Tryz.underlying31 (hval 1 31 v1 rfl (by rw [hargs];rfl)))
 obtain⟨a2,ha2,ho2⟩:=Ks (WU enc W) IM rfl Z (yr Tryz.underlying31 (hval 2 31 v2 rfl (by rw [hargs];rfl)))
 have hcall:=aaq a0 a1 a2 (Ik a0 a1 a2) W (LD W) [v0,v1,v2] (X5 W (Rq hL) (Sp hL)) ⟨ha0,ha1,ha2,trivial⟩
 have hargs' :args=[v0,v1,v2].toArray:=hargs
 rw [<-hargs']at hcall
 refine hcall.mono fun e W' ⟨v,S',he,hext,_,hv⟩=>⟨v,he,?_⟩
 rw [jZ.1 hv]
 exact SY (tb:=4) Vb (by rw [Tryz.params6];decide+kernel) rfl rfl Tryz.underlying4 hW' (by rw [hgs,hds];rfl) (Kp hext)
def zQ:Tryz.pinned.checked.prog.funcNamed Rows.bindSameRow.func=some 6:=by kernel_rfl
def Id:false=Rows.bindSameRow.goesBy Tryz.pinned.checked.prog:=by kernel_rfl
def jC:(Rows.bindSameRow.wf (OpenSpec.ofChange Rows.bindSameSpec))=true/\(Tryz.f6.params.all (fun t=>Tryz.pinned.checked.prog.readableRec t))=true/\(namedTie Tryz.pinned.checked.prog Rows.bindSameRow.named Rows.bindSameSpec.vars)=true/\((Rows.bindSameRow.stops==[]))=true/\((Rows.bindSameRow.knobs==[]))=true/\((Rows.bindSameRow.maps==(Tryz.f6.params.toList++Rows.bindSameSpec.plain.varTypes Tryz.pinned.checked.prog).any (fun t=>Tryz.pinned.checked.prog.mapsRec t)))=true/\((Rows.bindSameRow.ifaces==(Tryz.f6.params.toList++Rows.bindSameSpec.plain.varTypes Tryz.pinned.checked.prog).any (fun t=>Tryz.pinned.checked.prog.ifacesRec t)))=true/\((Rows.bindSameRow.mapsOut==Tryz.pinned.checked.prog.mapsAmong Tryz.f6.resultTypes.toList))=true/\((Rows.bindSameRow.loops==(Tryz.f6.params.toList++Rows.bindSameSpec.plain.varTypes Tryz.pinned.checked.prog).any (fun t=>Tryz.pinned.checked.prog.loopsFrom t)))=true/\((Rows.bindSameRow.wideKeys==(Tryz.f6.params.toList++Rows.bindSameSpec.plain.varTypes Tryz.pinned.checked.prog++Tryz.f6.resultTypes.toList).any (fun t=>Tryz.pinned.checked.prog.wideKeysFrom t)))=true/\(Rows.bindSameSpec.vars.all (fun n=>Tryz.pinned.checked.prog.varReadable n))=true/\(Tryz.f6.resultTypes.all (fun t=>Tryz.pinned.checked.prog.readableRec t&&decide (t<Tryz.pinned.checked.prog.types.size)))=true/\((Rows.bindSameRow.ifacesOut==Tryz.f6.resultTypes.toList.any (fun t=>Tryz.pinned.checked.prog.ifacesRec t)))=true/\((Rows.bindSameRow.loopsOut==Tryz.f6.resultTypes.toList.any (fun t=>Tryz.pinned.checked.prog.loopsFrom t)))=true:=by
 have h:((Rows.bindSameRow.wf (OpenSpec.ofChange Rows.bindSameSpec))&&((Tryz.f6.params.all (fun t=>Tryz.pinned.checked.prog.readableRec t))&&((namedTie Tryz.pinned.checked.prog Rows.bindSameRow.named Rows.bindSameSpec.vars)&&(((Rows.bindSameRow.stops==[]))&&(((Rows.bindSameRow.knobs==[]))&&(((Rows.bindSameRow.maps==(Tryz.f6.params.toList++Rows.bindSameSpec.plain.varTypes Tryz.pinned.checked.prog).any (fun t=>Tryz.pinned.checked.prog.mapsRec t)))&&(((Rows.bindSameRow.ifaces==(Tryz.f6.params.toList++Rows.bindSameSpec.plain.varTypes Tryz.pinned.checked.prog).any (fun t=>Tryz.pinned.checked.prog.ifacesRec t)))&&(((Rows.bindSameRow.mapsOut==Tryz.pinned.checked.prog.mapsAmong Tryz.f6.resultTypes.toList))&&(((Rows.bindSameRow.loops==(Tryz.f6.params.toList++Rows.bindSameSpec.plain.varTypes Tryz.pinned.checked.prog).any (fun t=>Tryz.pinned.checked.prog.loopsFrom t)))&&(((Rows.bindSameRow.wideKeys==(Tryz.f6.params.toList++Rows.bindSameSpec.plain.varTypes Tryz.pinned.checked.prog++Tryz.f6.resultTypes.toList).any (fun t=>Tryz.pinned.checked.prog.wideKeysFrom t)))&&((Rows.bindSameSpec.vars.all (fun n=>Tryz.pinned.checked.prog.varReadable n))&&((Tryz.f6.resultTypes.all (fun t=>Tryz.pinned.checked.prog.readableRec t&&decide (t<Tryz.pinned.checked.prog.types.size)))&&(((Rows.bindSameRow.ifacesOut==Tryz.f6.resultTypes.toList.any (fun t=>Tryz.pinned.checked.prog.ifacesRec t)))&&(((Rows.bindSameRow.loopsOut==Tryz.f6.resultTypes.toList.any (fun t=>Tryz.pinned.checked.prog.loopsFrom t)))))))))))))))))=true:=by kernel_rfl
 simpa only [Bool.and_eq_true] using h
def yv:((Rows.bindSameRow.inPlace==Tryz.pinned.checked.prog.inPlace 6))=true/\((Rows.bindSameRow.unfollowed==Tryz.pinned.checked.prog.unfollowed 6))=true/\((Rows.bindSameRow.recurses==Tryz.pinned.checked.prog.recurses 6))=true/\((Rows.bindSameRow.named==Tryz.pinned.checked.prog.varsNamed 6))=true:=by
 have h:(((Rows.bindSameRow.inPlace==Tryz.pinned.checked.prog.inPlace 6))&&(((Rows.bindSameRow.unfollowed==Tryz.pinned.checked.prog.unfollowed 6))&&(((Rows.bindSameRow.recurses==Tryz.pinned.checked.prog.recurses 6))&&(((Rows.bindSameRow.named==Tryz.pinned.checked.prog.varsNamed 6))))))=true:=by kernel_rfl
 simpa only [Bool.and_eq_true] using h
def q0:((Rows.bindSameRow.plainKeys==Tryz.pinned.checked.prog.plainKeys))=true/\(Rows.bindSameRow.shortTexts.isNone)=true/\((Rows.bindSameRow.lifted==Tryz.pinned.checked.prog.liftsFinal))=true/\((Tryz.pinned.checked.prog.make==some Rows.bindSameRow.make))=true/\((Rows.bindSameRow.pinned==Rows.bindSameRow.pinnedBy))=true/\((Rows.bindSameRow.veiled==(Tryz.f6.params.toList++Rows.bindSameSpec.plain.varTypes Tryz.pinned.checked.prog++Tryz.f6.resultTypes.toList).any (fun t=>Tryz.pinned.checked.prog.veiledRec t)))=true/\(Rows.bindSameRow.veiledFits Tryz.pinned.checked.prog Tryz.f6.params.toList (Tryz.f6.params.toList++Rows.bindSameSpec.plain.varTypes Tryz.pinned.checked.prog++Tryz.f6.resultTypes.toList))=true:=by
 have h:(((Rows.bindSameRow.plainKeys==Tryz.pinned.checked.prog.plainKeys))&&((Rows.bindSameRow.shortTexts.isNone)&&(((Rows.bindSameRow.lifted==Tryz.pinned.checked.prog.liftsFinal))&&(((Tryz.pinned.checked.prog.make==some Rows.bindSameRow.make))&&(((Rows.bindSameRow.pinned==Rows.bindSameRow.pinnedBy))&&(((Rows.bindSameRow.veiled==(Tryz.f6.params.toList++Rows.bindSameSpec.plain.varTypes Tryz.pinned.checked.prog++Tryz.f6.resultTypes.toList).any (fun t=>Tryz.pinned.checked.prog.veiledRec t)))&&((Rows.bindSameRow.veiledFits Tryz.pinned.checked.prog Tryz.f6.params.toList (Tryz.f6.params.toList++Rows.bindSameSpec.plain.varTypes Tryz.pinned.checked.prog++Tryz.f6.resultTypes.toList)))))))))=true:=by kernel_rfl
 simpa only [Bool.and_eq_true] using h
def Ft:joinedFacts Tryz.pinned.checked.prog 6 Tryz.f6 Rows.bindSameSpec Rows.bindSameRow=true:=by
 unfold joinedFacts
 exact f7 (f7 (f7 (f7 (f7 (f7 (f7 (f7 (f7 (f7 (f7 (f7 (f7 (f7 (f7 (f7 (f7 (f7 (f7 (f7 (f7 (f7 (f7 (f7 (f7 (f7 (f7 (f7 (f7 (f7 (f7 (jC.1) (Ai.1)) (Ai.2.1)) (jC.2.1)) (jC.2.2.1)) (jC.2.2.2.1)) (Ai.2.2.1)) (jC.2.2.2.2.1)) (Ai.2.2.2.1)) (yv.1)) (yv.2.1)) (yv.2.2.1)) (yv.2.2.2)) (jC.2.2.2.2.2.1)) (jC.2.2.2.2.2.2.1)) (jC.2.2.2.2.2.2.2.1)) (jC.2.2.2.2.2.2.2.2.1)) (jC.2.2.2.2.2.2.2.2.2.1)) (jC.2.2.2.2.2.2.2.2.2.2.1)) (jC.2.2.2.2.2.2.2.2.2.2.2.1)) (jC.2.2.2.2.2.2.2.2.2.2.2.2.1)) (jC.2.2.2.2.2.2.2.2.2.2.2.2.2)) (q0.1)) (q0.2.1)) (Ai.2.2.2.2.1)) (Ai.2.2.2.2.2)) (q0.2.2.1)) (q0.2.2.2.1)) (by kernel_rfl)) (q0.2.2.2.2.1)) (q0.2.2.2.2.2.1)) (q0.2.2.2.2.2.2)
def Ic:Rows.BindSameSaid:=
 OpenClaim.holds_of_wide 6 Tryz.f6 rfl rfl rfl rfl rfl rfl rfl ⟨rfl,rfl,rfl,rfl,rfl⟩ rfl rfl rfl rfl rfl zQ Tryz.func6 Ft
  (of_decide_eq_true (by kernel_rfl)) (by unfold Func.isWrapper;first|(rw [if_pos (by decide+kernel)];kernel_rfl)|(rw [if_neg (by decide+kernel)];exact⟨rfl,rfl⟩))
  (fun os started tD enc _=>Fs os started tD enc)
theorem bindSame_card:Rows.BindSameCardSaid:=
 Claim7.holds_tied_plain_at .later [] [.data,.widerDeep,.data,.pinned,.pinned] true (true, "994ba46e7a82f8141f915d9f3da3b6056a2eae399341bbf3229131cb61b0b052") false
  Ic (fun _ h=>by cases h) (by kernel_rfl) (fun _ h=>by cases h) bindSame_row_tie rfl ⟨rfl,rfl⟩ U4 rfl
  (fun f fn hf hfn=>by
   obtain rfl:f=6:=Option.some.inj ((show Tryz.prog.funcNamed "bowsprit/bowspritlaw12.BindSame" =some 6 from zQ).symm.trans hf)|>.symm
   obtain rfl:fn=Tryz.f6:=(Option.some.inj (Tryz.func6.symm.trans hfn)).symm
   exact⟨SM,fun j t M=>by
    rw [Tryz.params6]at M
    have hm:t∈[24,31,31]:=by simpa using Array.mem_of_getElem? M
    have hall:([24,31,31].all fun u=> !Tryz.prog.wantsStandIn u)=true:=by kernel_rfl
    exact(show Tryz.prog.wantsStandIn t=false by simpa using List.all_eq_true.1 hall t hm)⟩)
  Id
#print axioms bindSame_card
end Go.Proofs.YthbdkceckjihgaaGreatDoor

