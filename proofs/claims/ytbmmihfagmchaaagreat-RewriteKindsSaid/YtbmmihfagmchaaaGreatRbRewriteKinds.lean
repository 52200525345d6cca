/- cP of this claim: RewriteKinds. -/
import Derived.Test.YtbmmihfagmchaaaGreatRbA0
import Derived.Test.YtbmmihfagmchaaaGreatRbP14
import Derived.Test.YtbmmihfagmchaaaGreatRbE11
set_option linter.all false
namespace Go.Proofs.YtbmmihfagmchaaaGreat
open Go Go.ChangeShapes Go.WideShapes Go.ChangeAt Go.RowKit

set_option maxRecDepth 100000 in
def u7(os:Os)(started:os.Started)(tD:Type)(enc:TypeId×Value->tD):
  ReturnsInHanded {} Tryz.checked os 5 .any (Rows.rewriteKindsSpec.pre6 enc Tryz.prog Tryz.f5 Rows.rewriteKindsRow.domain false) (Rows.rewriteKindsSpec.post enc Tryz.prog Tryz.f5 false true false false):=by
 refine returnsInHanded_of_change (C:=Tryz.checked) Ou started (by kernel_rfl) Tryz.func5
  (ChangeSpec.witness6 (enc:=enc) (C:=Tryz.checked) false ⟨#[],#[.agg #[.slice none 0 0]],[]⟩ 8 (by kernel_rfl) (by kernel_rfl) (by kernel_rfl) (by kernel_rfl)) ?_
 intro W base args ds gs before hval0 hW hcnd _
 have hval: ∀(j:Nat) t v,Tryz.f5.params[j]? =some t->args[j]? =some v->Value.okWide Tryz.prog W .any base t v:=hval0
 have hW' :=hW
 obtain⟨p,q,hA0,hV,hbf,hfz,hnd⟩:=hW
 have hA:DataW.TrodAll enc Tryz.prog W 0 (fun _=>true) true Tryz.f5.params.toList args.toList ds p:=hA0
 have hgs:gs=[]:=by
  cases gs with
  |nil=>rfl
  |cons g gs=>exact hV.elim
 rw [Tryz.params5]at hA hval
 obtain⟨v0,d0,hargs,hds,h0⟩:=trodAll_one hA
 obtain⟨a0,ha0,ho0⟩:=Nl (PX enc W) H9 rfl h0 (De Tryz.underlying39 (hval 0 39 v0 rfl (by rw [hargs];rfl)))
 have hcall:=QE a0 (wG a0) W (Eo W) [v0] (Ot W (fun _ h=>by cases h) (fun _ _=>trivial)) ⟨ha0,trivial⟩
 have hargs' :args=[v0].toArray:=hargs
 rw [<-hargs']at hcall
 refine hcall.mono fun e W' ⟨v,S',he,hext,_,hv⟩=>⟨v,he,?_⟩
 rw [i8.1 hv]
 exact JZ (tb:=4) Ma (by rw [Tryz.params5];decide+kernel) rfl rfl Tryz.underlying4 hW' (by rw [hgs,hds];rfl) (Df hext)
def vO:Tryz.pinned.checked.prog.funcNamed Rows.rewriteKindsRow.func=some 5:=by kernel_rfl
def G7:false=Rows.rewriteKindsRow.goesBy Tryz.pinned.checked.prog:=by kernel_rfl
def dH:(Rows.rewriteKindsRow.wf (OpenSpec.ofChange Rows.rewriteKindsSpec))=true/\(Tryz.f5.params.all (fun t=>Tryz.pinned.checked.prog.readableRec t))=true/\(namedTie Tryz.pinned.checked.prog Rows.rewriteKindsRow.named Rows.rewriteKindsSpec.vars)=true/\((Rows.rewriteKindsRow.stops==[]))=true/\((Rows.rewriteKindsRow.knobs==[]))=true/\((Rows.rewriteKindsRow.maps==(Tryz.f5.params.toList++Rows.rewriteKindsSpec.plain.varTypes Tryz.pinned.checked.prog).any (fun t=>Tryz.pinned.checked.prog.mapsRec t)))=true/\((Rows.rewriteKindsRow.ifaces==(Tryz.f5.params.toList++Rows.rewriteKindsSpec.plain.varTypes Tryz.pinned.checked.prog).any (fun t=>Tryz.pinned.checked.prog.ifacesRec t)))=true/\((Rows.rewriteKindsRow.mapsOut==Tryz.pinned.checked.prog.mapsAmong Tryz.f5.resultTypes.toList))=true/\((Rows.rewriteKindsRow.loops==(Tryz.f5.params.toList++Rows.rewriteKindsSpec.plain.varTypes Tryz.pinned.checked.prog).any (fun t=>Tryz.pinned.checked.prog.loopsFrom t)))=true/\((Rows.rewriteKindsRow.wideKeys==(Tryz.f5.params.toList++Rows.rewriteKindsSpec.plain.varTypes Tryz.pinned.checked.prog++Tryz.f5.resultTypes.toList).any (fun t=>Tryz.pinned.checked.prog.wideKeysFrom t)))=true/\(Rows.rewriteKindsSpec.vars.all (fun n=>Tryz.pinned.checked.prog.varReadable n))=true/\(Tryz.f5.resultTypes.all (fun t=>Tryz.pinned.checked.prog.readableRec t&&decide (t<Tryz.pinned.checked.prog.types.size)))=true/\((Rows.rewriteKindsRow.ifacesOut==Tryz.f5.resultTypes.toList.any (fun t=>Tryz.pinned.checked.prog.ifacesRec t)))=true/\((Rows.rewriteKindsRow.loopsOut==Tryz.f5.resultTypes.toList.any (fun t=>Tryz.pinned.checked.prog.loopsFrom t)))=true:=by
 have h:((Rows.rewriteKindsRow.wf (OpenSpec.ofChange Rows.rewriteKindsSpec))&&((Tryz.f5.params.all (fun t=>Tryz.pinned.checked.prog.readableRec t))&&((namedTie Tryz.pinned.checked.prog Rows.rewriteKindsRow.named Rows.rewriteKindsSpec.vars)&&(((Rows.rewriteKindsRow.stops==[]))&&(((Rows.rewriteKindsRow.knobs==[]))&&(((Rows.rewriteKindsRow.maps==(Tryz.f5.params.toList++Rows.rewriteKindsSpec.plain.varTypes Tryz.pinned.checked.prog).any (fun t=>Tryz.pinned.checked.prog.mapsRec t)))&&(((Rows.rewriteKindsRow.ifaces==(Tryz.f5.params.toList++Rows.rewriteKindsSpec.plain.varTypes Tryz.pinned.checked.prog).any (fun t=>Tryz.pinned.checked.prog.ifacesRec t)))&&(((Rows.rewriteKindsRow.mapsOut==Tryz.pinned.checked.prog.mapsAmong Tryz.f5.resultTypes.toList))&&(((Rows.rewriteKindsRow.loops==(Tryz.f5.params.toList++Rows.rewriteKindsSpec.plain.varTypes Tryz.pinned.checked.prog).any (fun t=>Tryz.pinned.checked.prog.loopsFrom t)))&&(((Rows.rewriteKindsRow.wideKeys==(Tryz.f5.params.toList++Rows.rewriteKindsSpec.plain.varTypes Tryz.pinned.checked.prog++Tryz.f5.resultTypes.toList).any (fun t=>Tryz.pinned.checked.prog.wideKeysFrom t)))&&((Rows.rewriteKindsSpec.vars.all (fun n=>Tryz.pinned.checked.prog.varReadable n))&&((Tryz.f5.resultTypes.all (fun t=>Tryz.pinned.checked.prog.readableRec t&&decide (t<Tryz.pinned.checked.prog.types.size)))&&(((Rows.rewriteKindsRow.ifacesOut==Tryz.f5.resultTypes.toList.any (fun t=>Tryz.pinned.checked.prog.ifacesRec t)))&&(((Rows.rewriteKindsRow.loopsOut==Tryz.f5.resultTypes.toList.any (fun t=>Tryz.pinned.checked.prog.loopsFrom t)))))))))))))))))=true:=by kernel_rfl
 simpa only [Bool.and_eq_true] using h
def nR:((Rows.rewriteKindsRow.inPlace==Tryz.pinned.checked.prog.inPlace 5))=true/\((Rows.rewriteKindsRow.unfollowed==Tryz.pinned.checked.prog.unfollowed 5))=true/\((Rows.rewriteKindsRow.recurses==Tryz.pinned.checked.prog.recurses 5))=true/\((Rows.rewriteKindsRow.named==Tryz.pinned.checked.prog.varsNamed 5))=true:=by
 have h:(((Rows.rewriteKindsRow.inPlace==Tryz.pinned.checked.prog.inPlace 5))&&(((Rows.rewriteKindsRow.unfollowed==Tryz.pinned.checked.prog.unfollowed 5))&&(((Rows.rewriteKindsRow.recurses==Tryz.pinned.checked.prog.recurses 5))&&(((Rows.rewriteKindsRow.named==Tryz.pinned.checked.prog.varsNamed 5))))))=true:=by kernel_rfl
 simpa only [Bool.and_eq_true] using h
def ja:((Rows.rewriteKindsRow.plainKeys==Tryz.pinned.checked.prog.plainKeys))=true/\(Rows.rewriteKindsRow.shortTexts.isNone)=true/\((Rows.rewriteKindsRow.lifted==Tryz.pinned.checked.prog.liftsFinal))=true/\((Tryz.pinned.checked.prog.make==some Rows.rewriteKindsRow.make))=true/\((Rows.rewriteKindsRow.pinned==Rows.rewriteKindsRow.pinnedBy))=true/\((Rows.rewriteKindsRow.veiled==(Tryz.f5.params.toList++Rows.rewriteKindsSpec.plain.varTypes Tryz.pinned.checked.prog++Tryz.f5.resultTypes.toList).any (fun t=>Tryz.pinned.checked.prog.veiledRec t)))=true/\(Rows.rewriteKindsRow.veiledFits Tryz.pinned.checked.prog Tryz.f5.params.toList (Tryz.f5.params.toList++Rows.rewriteKindsSpec.plain.varTypes Tryz.pinned.checked.prog++Tryz.f5.resultTypes.toList))=true:=by
 have h:(((Rows.rewriteKindsRow.plainKeys==Tryz.pinned.checked.prog.plainKeys))&&((Rows.rewriteKindsRow.shortTexts.isNone)&&(((Rows.rewriteKindsRow.lifted==Tryz.pinned.checked.prog.liftsFinal))&&(((Tryz.pinned.checked.prog.make==some Rows.rewriteKindsRow.make))&&(((Rows.rewriteKindsRow.pinned==Rows.rewriteKindsRow.pinnedBy))&&(((Rows.rewriteKindsRow.veiled==(Tryz.f5.params.toList++Rows.rewriteKindsSpec.plain.varTypes Tryz.pinned.checked.prog++Tryz.f5.resultTypes.toList).any (fun t=>Tryz.pinned.checked.prog.veiledRec t)))&&((Rows.rewriteKindsRow.veiledFits Tryz.pinned.checked.prog Tryz.f5.params.toList (Tryz.f5.params.toList++Rows.rewriteKindsSpec.plain.varTypes Tryz.pinned.checked.prog++Tryz.f5.resultTypes.toList)))))))))=true:=by kernel_rfl
 simpa only [Bool.and_eq_true] using h
def u8:joinedFacts Tryz.pinned.checked.prog 5 Tryz.f5 Rows.rewriteKindsSpec Rows.rewriteKindsRow=true:=by
 unfold joinedFacts
 exact eq (eq (eq (eq (eq (eq (eq (eq (eq (eq (eq (eq (eq (eq (eq (eq (eq (eq (eq (eq (eq (eq (eq (eq (eq (eq (eq (eq (eq (eq (eq (dH.1) (uN.1)) (uN.2.1)) (dH.2.1)) (dH.2.2.1)) (dH.2.2.2.1)) (uN.2.2.1)) (dH.2.2.2.2.1)) (uN.2.2.2.1)) (nR.1)) (nR.2.1)) (nR.2.2.1)) (nR.2.2.2)) (dH.2.2.2.2.2.1)) (dH.2.2.2.2.2.2.1)) (dH.2.2.2.2.2.2.2.1)) (dH.2.2.2.2.2.2.2.2.1)) (dH.2.2.2.2.2.2.2.2.2.1)) (dH.2.2.2.2.2.2.2.2.2.2.1)) (dH.2.2.2.2.2.2.2.2.2.2.2.1)) (dH.2.2.2.2.2.2.2.2.2.2.2.2.1)) (dH.2.2.2.2.2.2.2.2.2.2.2.2.2)) (ja.1)) (ja.2.1)) (uN.2.2.2.2.1)) (uN.2.2.2.2.2)) (ja.2.2.1)) (ja.2.2.2.1)) (by kernel_rfl)) (ja.2.2.2.2.1)) (ja.2.2.2.2.2.1)) (ja.2.2.2.2.2.2)
theorem rewriteKinds_said:Rows.RewriteKindsSaid:=
 OpenClaim.holds_of_wide 5 Tryz.f5 rfl rfl rfl rfl rfl rfl rfl ⟨rfl,rfl,rfl,rfl,rfl⟩ rfl rfl rfl rfl rfl vO Tryz.func5 u8
  (of_decide_eq_true (by kernel_rfl)) (by unfold Func.isWrapper;first|(rw [if_pos (by decide+kernel)];kernel_rfl)|(rw [if_neg (by decide+kernel)];exact⟨rfl,rfl⟩))
  (fun os started tD enc _=>u7 os started tD enc)
#print axioms rewriteKinds_said
end Go.Proofs.YtbmmihfagmchaaaGreat

