/- cW of this claim: RewriteTwice. -/
import Derived.Test.YtbmmihfagmchaaaGreatRcA0
import Derived.Test.YtbmmihfagmchaaaGreatRcP13
import Derived.Test.YtbmmihfagmchaaaGreatRcE12
set_option linter.all false
namespace Go.Proofs.YtbmmihfagmchaaaGreat
open Go Go.ChangeShapes Go.WideShapes Go.ChangeAt Go.RowKit

set_option maxRecDepth 100000 in
def vn(os:Os)(started:os.Started)(tD:Type)(enc:TypeId×Value->tD):
  ReturnsInHanded {} Tryz.checked os 4 .any (Rows.rewriteTwiceSpec.pre6 enc Tryz.prog Tryz.f4 Rows.rewriteTwiceRow.domain false) (Rows.rewriteTwiceSpec.post enc Tryz.prog Tryz.f4 false true false false):=by
 refine returnsInHanded_of_change (C:=Tryz.checked) Oo started (by kernel_rfl) Tryz.func4
  (ChangeSpec.witness6 (enc:=enc) (C:=Tryz.checked) false ⟨#[],#[.agg #[.slice none 0 0]],[]⟩ 8 (by kernel_rfl) (by kernel_rfl) (by kernel_rfl) (by kernel_rfl)) ?_
 intro W base args ds gs before hval0 hW hcnd _
 have hval: ∀(j:Nat) t v,Tryz.f4.params[j]? =some t->args[j]? =some v->Value.okWide Tryz.prog W .any base t v:=hval0
 have hW' :=hW
 obtain⟨p,q,hA0,hV,hbf,hfz,hnd⟩:=hW
 have hA:DataW.TrodAll enc Tryz.prog W 0 (fun _=>true) true Tryz.f4.params.toList args.toList ds p:=hA0
 have hgs:gs=[]:=by
  cases gs with
  |nil=>rfl
  |cons g gs=>exact hV.elim
 rw [Tryz.params4]at hA hval
 obtain⟨v0,d0,hargs,hds,h0⟩:=trodAll_one hA
 obtain⟨a0,ha0,ho0⟩:=Nh (Qa enc W) Ig rfl h0 (Dn Tryz.underlying39 (hval 0 39 v0 rfl (by rw [hargs];rfl)))
 have hcall:=QH a0 (wN a0) W (Eu W) [v0] (On W (fun _ h=>by cases h) (fun _ _=>trivial)) ⟨ha0,trivial⟩
 have hargs' :args=[v0].toArray:=hargs
 rw [<-hargs']at hcall
 refine hcall.mono fun e W' ⟨v,S',he,hext,_,hv⟩=>⟨v,he,?_⟩
 rw [iC.1 hv]
 exact JZ (tb:=4) LX (by rw [Tryz.params4];decide+kernel) rfl rfl Tryz.underlying4 hW' (by rw [hgs,hds];rfl) (Do hext)
def v6:Tryz.pinned.checked.prog.funcNamed Rows.rewriteTwiceRow.func=some 4:=by kernel_rfl
def Hd:false=Rows.rewriteTwiceRow.goesBy Tryz.pinned.checked.prog:=by kernel_rfl
def dO:(Rows.rewriteTwiceRow.wf (OpenSpec.ofChange Rows.rewriteTwiceSpec))=true/\(Tryz.f4.params.all (fun t=>Tryz.pinned.checked.prog.readableRec t))=true/\(namedTie Tryz.pinned.checked.prog Rows.rewriteTwiceRow.named Rows.rewriteTwiceSpec.vars)=true/\((Rows.rewriteTwiceRow.stops==[]))=true/\((Rows.rewriteTwiceRow.knobs==[]))=true/\((Rows.rewriteTwiceRow.maps==(Tryz.f4.params.toList++Rows.rewriteTwiceSpec.plain.varTypes Tryz.pinned.checked.prog).any (fun t=>Tryz.pinned.checked.prog.mapsRec t)))=true/\((Rows.rewriteTwiceRow.ifaces==(Tryz.f4.params.toList++Rows.rewriteTwiceSpec.plain.varTypes Tryz.pinned.checked.prog).any (fun t=>Tryz.pinned.checked.prog.ifacesRec t)))=true/\((Rows.rewriteTwiceRow.mapsOut==Tryz.pinned.checked.prog.mapsAmong Tryz.f4.resultTypes.toList))=true/\((Rows.rewriteTwiceRow.loops==(Tryz.f4.params.toList++Rows.rewriteTwiceSpec.plain.varTypes Tryz.pinned.checked.prog).any (fun t=>Tryz.pinned.checked.prog.loopsFrom t)))=true/\((Rows.rewriteTwiceRow.wideKeys==(Tryz.f4.params.toList++Rows.rewriteTwiceSpec.plain.varTypes Tryz.pinned.checked.prog++Tryz.f4.resultTypes.toList).any (fun t=>Tryz.pinned.checked.prog.wideKeysFrom t)))=true/\(Rows.rewriteTwiceSpec.vars.all (fun n=>Tryz.pinned.checked.prog.varReadable n))=true/\(Tryz.f4.resultTypes.all (fun t=>Tryz.pinned.checked.prog.readableRec t&&decide (t<Tryz.pinned.checked.prog.types.size)))=true/\((Rows.rewriteTwiceRow.ifacesOut==Tryz.f4.resultTypes.toList.any (fun t=>Tryz.pinned.checked.prog.ifacesRec t)))=true/\((Rows.rewriteTwiceRow.loopsOut==Tryz.f4.resultTypes.toList.any (fun t=>Tryz.pinned.checked.prog.loopsFrom t)))=true:=by
 have h:((Rows.rewriteTwiceRow.wf (OpenSpec.ofChange Rows.rewriteTwiceSpec))&&((Tryz.f4.params.all (fun t=>Tryz.pinned.checked.prog.readableRec t))&&((namedTie Tryz.pinned.checked.prog Rows.rewriteTwiceRow.named Rows.rewriteTwiceSpec.vars)&&(((Rows.rewriteTwiceRow.stops==[]))&&(((Rows.rewriteTwiceRow.knobs==[]))&&(((Rows.rewriteTwiceRow.maps==(Tryz.f4.params.toList++Rows.rewriteTwiceSpec.plain.varTypes Tryz.pinned.checked.prog).any (fun t=>Tryz.pinned.checked.prog.mapsRec t)))&&(((Rows.rewriteTwiceRow.ifaces==(Tryz.f4.params.toList++Rows.rewriteTwiceSpec.plain.varTypes Tryz.pinned.checked.prog).any (fun t=>Tryz.pinned.checked.prog.ifacesRec t)))&&(((Rows.rewriteTwiceRow.mapsOut==Tryz.pinned.checked.prog.mapsAmong Tryz.f4.resultTypes.toList))&&(((Rows.rewriteTwiceRow.loops==(Tryz.f4.params.toList++Rows.rewriteTwiceSpec.plain.varTypes Tryz.pinned.checked.prog).any (fun t=>Tryz.pinned.checked.prog.loopsFrom t)))&&(((Rows.rewriteTwiceRow.wideKeys==(Tryz.f4.params.toList++Rows.rewriteTwiceSpec.plain.varTypes Tryz.pinned.checked.prog++Tryz.f4.resultTypes.toList).any (fun t=>Tryz.pinned.checked.prog.wideKeysFrom t)))&&((Rows.rewriteTwiceSpec.vars.all (fun n=>Tryz.pinned.checked.prog.varReadable n))&&((Tryz.f4.resultTypes.all (fun t=>Tryz.pinned.checked.prog.readableRec t&&decide (t<Tryz.pinned.checked.prog.types.size)))&&(((Rows.rewriteTwiceRow.ifacesOut==Tryz.f4.resultTypes.toList.any (fun t=>Tryz.pinned.checked.prog.ifacesRec t)))&&(((Rows.rewriteTwiceRow.loopsOut==Tryz.f4.resultTypes.toList.any (fun t=>Tryz.pinned.checked.prog.loopsFrom t)))))))))))))))))=true:=by kernel_rfl
 simpa only [Bool.and_eq_true] using h
def nV:((Rows.rewriteTwiceRow.inPlace==Tryz.pinned.checked.prog.inPlace 4))=true/\((Rows.rewriteTwiceRow.unfollowed==Tryz.pinned.checked.prog.unfollowed 4))=true/\((Rows.rewriteTwiceRow.recurses==Tryz.pinned.checked.prog.recurses 4))=true/\((Rows.rewriteTwiceRow.named==Tryz.pinned.checked.prog.varsNamed 4))=true:=by
 have h:(((Rows.rewriteTwiceRow.inPlace==Tryz.pinned.checked.prog.inPlace 4))&&(((Rows.rewriteTwiceRow.unfollowed==Tryz.pinned.checked.prog.unfollowed 4))&&(((Rows.rewriteTwiceRow.recurses==Tryz.pinned.checked.prog.recurses 4))&&(((Rows.rewriteTwiceRow.named==Tryz.pinned.checked.prog.varsNamed 4))))))=true:=by kernel_rfl
 simpa only [Bool.and_eq_true] using h
def ji:((Rows.rewriteTwiceRow.plainKeys==Tryz.pinned.checked.prog.plainKeys))=true/\(Rows.rewriteTwiceRow.shortTexts.isNone)=true/\((Rows.rewriteTwiceRow.lifted==Tryz.pinned.checked.prog.liftsFinal))=true/\((Tryz.pinned.checked.prog.make==some Rows.rewriteTwiceRow.make))=true/\((Rows.rewriteTwiceRow.pinned==Rows.rewriteTwiceRow.pinnedBy))=true/\((Rows.rewriteTwiceRow.veiled==(Tryz.f4.params.toList++Rows.rewriteTwiceSpec.plain.varTypes Tryz.pinned.checked.prog++Tryz.f4.resultTypes.toList).any (fun t=>Tryz.pinned.checked.prog.veiledRec t)))=true/\(Rows.rewriteTwiceRow.veiledFits Tryz.pinned.checked.prog Tryz.f4.params.toList (Tryz.f4.params.toList++Rows.rewriteTwiceSpec.plain.varTypes Tryz.pinned.checked.prog++Tryz.f4.resultTypes.toList))=true:=by
 have h:(((Rows.rewriteTwiceRow.plainKeys==Tryz.pinned.checked.prog.plainKeys))&&((Rows.rewriteTwiceRow.shortTexts.isNone)&&(((Rows.rewriteTwiceRow.lifted==Tryz.pinned.checked.prog.liftsFinal))&&(((Tryz.pinned.checked.prog.make==some Rows.rewriteTwiceRow.make))&&(((Rows.rewriteTwiceRow.pinned==Rows.rewriteTwiceRow.pinnedBy))&&(((Rows.rewriteTwiceRow.veiled==(Tryz.f4.params.toList++Rows.rewriteTwiceSpec.plain.varTypes Tryz.pinned.checked.prog++Tryz.f4.resultTypes.toList).any (fun t=>Tryz.pinned.checked.prog.veiledRec t)))&&((Rows.rewriteTwiceRow.veiledFits Tryz.pinned.checked.prog Tryz.f4.params.toList (Tryz.f4.params.toList++Rows.rewriteTwiceSpec.plain.varTypes Tryz.pinned.checked.prog++Tryz.f4.resultTypes.toList)))))))))=true:=by kernel_rfl
 simpa only [Bool.and_eq_true] using h
def vo:joinedFacts Tryz.pinned.checked.prog 4 Tryz.f4 Rows.rewriteTwiceSpec Rows.rewriteTwiceRow=true:=by
 unfold joinedFacts
 exact eI (eI (eI (eI (eI (eI (eI (eI (eI (eI (eI (eI (eI (eI (eI (eI (eI (eI (eI (eI (eI (eI (eI (eI (eI (eI (eI (eI (eI (eI (eI (dO.1) (uY.1)) (uY.2.1)) (dO.2.1)) (dO.2.2.1)) (dO.2.2.2.1)) (uY.2.2.1)) (dO.2.2.2.2.1)) (uY.2.2.2.1)) (nV.1)) (nV.2.1)) (nV.2.2.1)) (nV.2.2.2)) (dO.2.2.2.2.2.1)) (dO.2.2.2.2.2.2.1)) (dO.2.2.2.2.2.2.2.1)) (dO.2.2.2.2.2.2.2.2.1)) (dO.2.2.2.2.2.2.2.2.2.1)) (dO.2.2.2.2.2.2.2.2.2.2.1)) (dO.2.2.2.2.2.2.2.2.2.2.2.1)) (dO.2.2.2.2.2.2.2.2.2.2.2.2.1)) (dO.2.2.2.2.2.2.2.2.2.2.2.2.2)) (ji.1)) (ji.2.1)) (uY.2.2.2.2.1)) (uY.2.2.2.2.2)) (ji.2.2.1)) (ji.2.2.2.1)) (by kernel_rfl)) (ji.2.2.2.2.1)) (ji.2.2.2.2.2.1)) (ji.2.2.2.2.2.2)
theorem rewriteTwice_said:Rows.RewriteTwiceSaid:=
 OpenClaim.holds_of_wide 4 Tryz.f4 rfl rfl rfl rfl rfl rfl rfl ⟨rfl,rfl,rfl,rfl,rfl⟩ rfl rfl rfl rfl rfl v6 Tryz.func4 vo
  (of_decide_eq_true (by kernel_rfl)) (by unfold Func.isWrapper;first|(rw [if_pos (by decide+kernel)];kernel_rfl)|(rw [if_neg (by decide+kernel)];exact⟨rfl,rfl⟩))
  (fun os started tD enc _=>vn os started tD enc)
#print axioms rewriteTwice_said
end Go.Proofs.YtbmmihfagmchaaaGreat

