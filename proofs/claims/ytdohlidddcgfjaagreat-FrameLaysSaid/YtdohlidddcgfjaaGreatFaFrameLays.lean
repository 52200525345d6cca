/- cT of this claim: FrameLays. -/
import Derived.Test.YtdohlidddcgfjaaGreatFaA0
import Derived.Test.YtdohlidddcgfjaaGreatFaP18
import Derived.Test.YtdohlidddcgfjaaGreatFaG6
set_option linter.all false
namespace Go.Proofs.YtdohlidddcgfjaaGreat
open Go Go.ChangeShapes Go.WideShapes Go.ChangeAt Go.RowKit

set_option maxRecDepth 100000 in
theorem zi(os:Os)(started:os.Started)(H:Type)(enc:TypeId×Value→H):
  ReturnsInHanded {} Tryz.checked os 3 .any (Rows.frameLaysSpec.pre6 enc Tryz.prog Tryz.f3 Rows.frameLaysRow.domain false) (Rows.frameLaysSpec.post enc Tryz.prog Tryz.f3 false true false false):=by
 refine returnsInHanded_of_change (C:=Tryz.checked) Qp started (by kernel_rfl) Tryz.func3
  (ChangeSpec.witness6 (enc:=enc) (C:=Tryz.checked) false ⟨#[],#[.agg #[.int .i64 0,.int .i64 0,.int .i64 0,.int .i64 0,.int .i64 0,.int .i64 0,.slice none 0 0,.int .i64 0,.int .u32 0,.int .u64 0,.int .u64 0,.slice none 0 0,.bool false,.int .u64 0,.int .i64 0],.agg #[.int .i64 0,.int .i64 0,.int .i64 0,.int .i64 0,.int .i64 0,.int .i64 0,.slice none 0 0,.int .i64 0,.int .u32 0,.int .u64 0,.int .u64 0,.slice none 0 0,.bool false,.int .u64 0,.int .i64 0]],[]⟩ 8 (by kernel_rfl) (by kernel_rfl) (by kernel_rfl) (by kernel_rfl)) ?_
 intro W base args ds gs before hval0 hW hcnd _
 have hval: ∀(j:Nat) t v,Tryz.f3.params[j]? =some t→args[j]? =some v→Value.okWide Tryz.prog W .any base t v:=hval0
 have hW' :=hW
 obtain⟨p,q,hA0,hV,hbf,hfz,hnd⟩:=hW
 have hA:DataW.TrodAll enc Tryz.prog W 0 (fun _=>true) true Tryz.f3.params.toList args.toList ds p:=hA0
 have hgs:gs=[]:=by
  cases gs with
  |nil=>rfl
  |cons g gs=>exact hV.elim
 rw [Tryz.params3]at hA hval
 obtain⟨v0,v1,d0,d1,p0,p1,hargs,hds,hps,h0,h1⟩:=trodAll_two hA
 obtain⟨a0,ha0,ho0⟩:=Jl (Pr enc W) IF rfl h0 (yG Tryz.underlying34 (hval 0 34 v0 rfl (by rw [hargs];rfl)))
 obtain⟨a1,ha1,ho1⟩:=Jl (Pr enc W) IF rfl h1 (yG Tryz.underlying34 (hval 1 34 v1 rfl (by rw [hargs];rfl)))
 have hcall:=S2 a0 a1 (BD a0 a1) W (F8 W) [v0,v1] (Qm W (fun _ h=>by cases h) (fun _ _=>trivial)) ⟨ha0,ha1,trivial⟩
 have hargs' :args=[v0,v1].toArray:=hargs
 rw [←hargs']at hcall
 refine hcall.mono fun e W' ⟨v,S',he,hext,_,hv⟩=>⟨v,he,?_⟩
 rw [gY.1 hv]
 exact LP (tb:=4) NC (by rw [Tryz.params3];decide+kernel) rfl rfl Tryz.underlying4 hW' (by rw [hgs,hds];rfl) (EI hext)
theorem Al:Tryz.pinned.checked.prog.funcNamed Rows.frameLaysRow.func=some 3:=by kernel_rfl
theorem L9:false=Rows.frameLaysRow.goesBy Tryz.pinned.checked.prog:=by kernel_rfl
theorem gx:(Rows.frameLaysRow.wf (OpenSpec.ofChange Rows.frameLaysSpec))=true∧(Tryz.f3.params.all (fun t=>Tryz.pinned.checked.prog.readableRec t))=true∧(namedTie Tryz.pinned.checked.prog Rows.frameLaysRow.named Rows.frameLaysSpec.vars)=true∧((Rows.frameLaysRow.stops==[]))=true∧((Rows.frameLaysRow.knobs==[]))=true∧((Rows.frameLaysRow.maps==(Tryz.f3.params.toList++Rows.frameLaysSpec.plain.varTypes Tryz.pinned.checked.prog).any (fun t=>Tryz.pinned.checked.prog.mapsRec t)))=true∧((Rows.frameLaysRow.ifaces==(Tryz.f3.params.toList++Rows.frameLaysSpec.plain.varTypes Tryz.pinned.checked.prog).any (fun t=>Tryz.pinned.checked.prog.ifacesRec t)))=true∧((Rows.frameLaysRow.mapsOut==Tryz.pinned.checked.prog.mapsAmong Tryz.f3.resultTypes.toList))=true∧((Rows.frameLaysRow.loops==(Tryz.f3.params.toList++Rows.frameLaysSpec.plain.varTypes Tryz.pinned.checked.prog).any (fun t=>Tryz.pinned.checked.prog.loopsFrom t)))=true∧((Rows.frameLaysRow.wideKeys==(Tryz.f3.params.toList++Rows.frameLaysSpec.plain.varTypes Tryz.pinned.checked.prog++Tryz.f3.resultTypes.toList).any (fun t=>Tryz.pinned.checked.prog.wideKeysFrom t)))=true∧(Rows.frameLaysSpec.vars.all (fun n=>Tryz.pinned.checked.prog.varReadable n))=true∧(Tryz.f3.resultTypes.all (fun t=>Tryz.pinned.checked.prog.readableRec t&&decide (t<Tryz.pinned.checked.prog.types.size)))=true∧((Rows.frameLaysRow.ifacesOut==Tryz.f3.resultTypes.toList.any (fun t=>Tryz.pinned.checked.prog.ifacesRec t)))=true∧((Rows.frameLaysRow.loopsOut==Tryz.f3.resultTypes.toList.any (fun t=>Tryz.pinned.checked.prog.loopsFrom t)))=true:=by
 have h:((Rows.frameLaysRow.wf (OpenSpec.ofChange Rows.frameLaysSpec))&&((Tryz.f3.params.all (fun t=>Tryz.pinned.checked.prog.readableRec t))&&((namedTie Tryz.pinned.checked.prog Rows.frameLaysRow.named Rows.frameLaysSpec.vars)&&(((Rows.frameLaysRow.stops==[]))&&(((Rows.frameLaysRow.knobs==[]))&&(((Rows.frameLaysRow.maps==(Tryz.f3.params.toList++Rows.frameLaysSpec.plain.varTypes Tryz.pinned.checked.prog).any (fun t=>Tryz.pinned.checked.prog.mapsRec t)))&&(((Rows.frameLaysRow.ifaces==(Tryz.f3.params.toList++Rows.frameLaysSpec.plain.varTypes Tryz.pinned.checked.prog).any (fun t=>Tryz.pinned.checked.prog.ifacesRec t)))&&(((Rows.frameLaysRow.mapsOut==Tryz.pinned.checked.prog.mapsAmong Tryz.f3.resultTypes.toList))&&(((Rows.frameLaysRow.loops==(Tryz.f3.params.toList++Rows.frameLaysSpec.plain.varTypes Tryz.pinned.checked.prog).any (fun t=>Tryz.pinned.checked.prog.loopsFrom t)))&&(((Rows.frameLaysRow.wideKeys==(Tryz.f3.params.toList++Rows.frameLaysSpec.plain.varTypes Tryz.pinned.checked.prog++Tryz.f3.resultTypes.toList).any (fun t=>Tryz.pinned.checked.prog.wideKeysFrom t)))&&((Rows.frameLaysSpec.vars.all (fun n=>Tryz.pinned.checked.prog.varReadable n))&&((Tryz.f3.resultTypes.all (fun t=>Tryz.pinned.checked.prog.readableRec t&&decide (t<Tryz.pinned.checked.prog.types.size)))&&(((Rows.frameLaysRow.ifacesOut==Tryz.f3.resultTypes.toList.any (fun t=>Tryz.pinned.checked.prog.ifacesRec t)))&&(((Rows.frameLaysRow.loopsOut==Tryz.f3.resultTypes.toList.any (fun t=>Tryz.pinned.checked.prog.loopsFrom t)))))))))))))))))=true:=by kernel_rfl
 simpa only [Bool.and_eq_true] using h
theorem sU:((Rows.frameLaysRow.inPlace==Tryz.pinned.checked.prog.inPlace 3))=true∧((Rows.frameLaysRow.unfollowed==Tryz.pinned.checked.prog.unfollowed 3))=true∧((Rows.frameLaysRow.recurses==Tryz.pinned.checked.prog.recurses 3))=true∧((Rows.frameLaysRow.named==Tryz.pinned.checked.prog.varsNamed 3))=true:=by
 have h:(((Rows.frameLaysRow.inPlace==Tryz.pinned.checked.prog.inPlace 3))&&(((Rows.frameLaysRow.unfollowed==Tryz.pinned.checked.prog.unfollowed 3))&&(((Rows.frameLaysRow.recurses==Tryz.pinned.checked.prog.recurses 3))&&(((Rows.frameLaysRow.named==Tryz.pinned.checked.prog.varsNamed 3))))))=true:=by kernel_rfl
 simpa only [Bool.and_eq_true] using h
theorem nM:((Rows.frameLaysRow.plainKeys==Tryz.pinned.checked.prog.plainKeys))=true∧(Rows.frameLaysRow.shortTexts.isNone)=true∧((Rows.frameLaysRow.lifted==Tryz.pinned.checked.prog.liftsFinal))=true∧((Tryz.pinned.checked.prog.make==some Rows.frameLaysRow.make))=true∧((Rows.frameLaysRow.pinned==Rows.frameLaysRow.pinnedBy))=true∧((Rows.frameLaysRow.veiled==(Tryz.f3.params.toList++Rows.frameLaysSpec.plain.varTypes Tryz.pinned.checked.prog++Tryz.f3.resultTypes.toList).any (fun t=>Tryz.pinned.checked.prog.veiledRec t)))=true∧(Rows.frameLaysRow.veiledFits Tryz.pinned.checked.prog Tryz.f3.params.toList (Tryz.f3.params.toList++Rows.frameLaysSpec.plain.varTypes Tryz.pinned.checked.prog++Tryz.f3.resultTypes.toList))=true:=by
 have h:(((Rows.frameLaysRow.plainKeys==Tryz.pinned.checked.prog.plainKeys))&&((Rows.frameLaysRow.shortTexts.isNone)&&(((Rows.frameLaysRow.lifted==Tryz.pinned.checked.prog.liftsFinal))&&(((Tryz.pinned.checked.prog.make==some Rows.frameLaysRow.make))&&(((Rows.frameLaysRow.pinned==Rows.frameLaysRow.pinnedBy))&&(((Rows.frameLaysRow.veiled==(Tryz.f3.params.toList++Rows.frameLaysSpec.plain.varTypes Tryz.pinned.checked.prog++Tryz.f3.resultTypes.toList).any (fun t=>Tryz.pinned.checked.prog.veiledRec t)))&&((Rows.frameLaysRow.veiledFits Tryz.pinned.checked.prog Tryz.f3.params.toList (Tryz.f3.params.toList++Rows.frameLaysSpec.plain.varTypes Tryz.pinned.checked.prog++Tryz.f3.resultTypes.toList)))))))))=true:=by kernel_rfl
 simpa only [Bool.and_eq_true] using h
theorem zj:joinedFacts Tryz.pinned.checked.prog 3 Tryz.f3 Rows.frameLaysSpec Rows.frameLaysRow=true:=by
 unfold joinedFacts
 exact fm (fm (fm (fm (fm (fm (fm (fm (fm (fm (fm (fm (fm (fm (fm (fm (fm (fm (fm (fm (fm (fm (fm (fm (fm (fm (fm (fm (fm (fm (fm (gx.1) (wt.1)) (wt.2.1)) (gx.2.1)) (gx.2.2.1)) (gx.2.2.2.1)) (wt.2.2.1)) (gx.2.2.2.2.1)) (wt.2.2.2.1)) (sU.1)) (sU.2.1)) (sU.2.2.1)) (sU.2.2.2)) (gx.2.2.2.2.2.1)) (gx.2.2.2.2.2.2.1)) (gx.2.2.2.2.2.2.2.1)) (gx.2.2.2.2.2.2.2.2.1)) (gx.2.2.2.2.2.2.2.2.2.1)) (gx.2.2.2.2.2.2.2.2.2.2.1)) (gx.2.2.2.2.2.2.2.2.2.2.2.1)) (gx.2.2.2.2.2.2.2.2.2.2.2.2.1)) (gx.2.2.2.2.2.2.2.2.2.2.2.2.2)) (nM.1)) (nM.2.1)) (wt.2.2.2.2.1)) (wt.2.2.2.2.2)) (nM.2.2.1)) (nM.2.2.2.1)) (by kernel_rfl)) (nM.2.2.2.2.1)) (nM.2.2.2.2.2.1)) (nM.2.2.2.2.2.2)
theorem frameLays_said:Rows.FrameLaysSaid:=
 OpenClaim.holds_of_wide 3 Tryz.f3 rfl rfl rfl rfl rfl rfl rfl ⟨rfl,rfl,rfl,rfl,rfl⟩ rfl rfl rfl rfl rfl Al Tryz.func3 zj
  (of_decide_eq_true (by kernel_rfl)) (by unfold Func.isWrapper;first|(rw [if_pos (by decide+kernel)];kernel_rfl)|(rw [if_neg (by decide+kernel)];exact⟨rfl,rfl⟩))
  (fun os started H enc _=>zi os started H enc)
#print axioms frameLays_said
end Go.Proofs.YtdohlidddcgfjaaGreat

