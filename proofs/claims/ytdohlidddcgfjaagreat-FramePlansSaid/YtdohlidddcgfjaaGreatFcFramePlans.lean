/- cE of this claim: FramePlans. -/
import Derived.Test.YtdohlidddcgfjaaGreatFcA0
import Derived.Test.YtdohlidddcgfjaaGreatFcP23
import Derived.Test.YtdohlidddcgfjaaGreatFcH20
set_option linter.all false
namespace Go.Proofs.YtdohlidddcgfjaaGreat
open Go Go.ChangeShapes Go.WideShapes Go.ChangeAt Go.RowKit

set_option maxRecDepth 100000 in
def Bx(os:Os)(started:os.Started)(hb:Type)(enc:TypeId×Value->hb):
  ReturnsInHanded {} Tryz.checked os 4 .any (Rows.framePlansSpec.pre6 enc Tryz.prog Tryz.f4 Rows.framePlansRow.domain false) (Rows.framePlansSpec.post enc Tryz.prog Tryz.f4 false true false false):=by
 refine returnsInHanded_of_change (C:=Tryz.checked) WD started (by kernel_rfl) Tryz.func4
  (ChangeSpec.witness6 (enc:=enc) (C:=Tryz.checked) false ⟨#[],#[.agg #[.slice none 0 0]],[]⟩ 8 (by kernel_rfl) (by kernel_rfl) (by kernel_rfl) (by kernel_rfl)) ?_
 intro W base args ds gs before hval0 hW hcnd _
 have hval: ∀(j:Nat) t v,Tryz.f4.params[j]? =some t->args[j]? =some v->Value.okWide Tryz.prog W .any base t v:=hval0
 have hW' :=hW
 obtain⟨p,q,hA0,hV,hbf,hfz,hnd⟩:=hW
 have hA:DataW.TrodAll enc Tryz.prog W 0 (fun _=>true) true Tryz.f4.params.toList args.toList ds p:=hA0
 have hgs:gs=[]:=by
  cases gs with
  |nil=>rfl
  |cons g gs=>exact hV.elim
 rw [Tryz.params4]at hA hval
 obtain⟨v0,d0,hargs,hds,h0⟩:=trodAll_one hA
 obtain⟨a0,ha0,ho0⟩:=Vj (Zd enc W) QN rfl h0 (IK Tryz.underlying24 (hval 0 24 v0 rfl (by rw [hargs];rfl)))
 have hcall:=ZW a0 (Cp a0 ho0) W (Ka W) [v0] (Wy W (fun _ h=>by cases h) (fun _ _=>trivial)) ⟨ha0,trivial⟩
 have hargs' :args=[v0].toArray:=hargs
 rw [<-hargs']at hcall
 refine hcall.mono fun e W' ⟨v,S',he,hext,_,hv⟩=>⟨v,he,?_⟩
 rw [jc.1 hv]
 exact Rj (tb:=4) TK (by rw [Tryz.params4];decide+kernel) rfl rfl Tryz.underlying4 hW' (by rw [hgs,hds];rfl) (IN hext)
def Co:Tryz.pinned.checked.prog.funcNamed Rows.framePlansRow.func=some 4:=by kernel_rfl
def PU:false=Rows.framePlansRow.goesBy Tryz.pinned.checked.prog:=by kernel_rfl
def gM:(Rows.framePlansRow.wf (OpenSpec.ofChange Rows.framePlansSpec))=true/\(Tryz.f4.params.all (fun t=>Tryz.pinned.checked.prog.readableRec t))=true/\(namedTie Tryz.pinned.checked.prog Rows.framePlansRow.named Rows.framePlansSpec.vars)=true/\((Rows.framePlansRow.stops==[]))=true/\((Rows.framePlansRow.knobs==[]))=true/\((Rows.framePlansRow.maps==(Tryz.f4.params.toList++Rows.framePlansSpec.plain.varTypes Tryz.pinned.checked.prog).any (fun t=>Tryz.pinned.checked.prog.mapsRec t)))=true/\((Rows.framePlansRow.ifaces==(Tryz.f4.params.toList++Rows.framePlansSpec.plain.varTypes Tryz.pinned.checked.prog).any (fun t=>Tryz.pinned.checked.prog.ifacesRec t)))=true/\((Rows.framePlansRow.mapsOut==Tryz.pinned.checked.prog.mapsAmong Tryz.f4.resultTypes.toList))=true/\((Rows.framePlansRow.loops==(Tryz.f4.params.toList++Rows.framePlansSpec.plain.varTypes Tryz.pinned.checked.prog).any (fun t=>Tryz.pinned.checked.prog.loopsFrom t)))=true/\((Rows.framePlansRow.wideKeys==(Tryz.f4.params.toList++Rows.framePlansSpec.plain.varTypes Tryz.pinned.checked.prog++Tryz.f4.resultTypes.toList).any (fun t=>Tryz.pinned.checked.prog.wideKeysFrom t)))=true/\(Rows.framePlansSpec.vars.all (fun n=>Tryz.pinned.checked.prog.varReadable n))=true/\(Tryz.f4.resultTypes.all (fun t=>Tryz.pinned.checked.prog.readableRec t&&decide (t<Tryz.pinned.checked.prog.types.size)))=true/\((Rows.framePlansRow.ifacesOut==Tryz.f4.resultTypes.toList.any (fun t=>Tryz.pinned.checked.prog.ifacesRec t)))=true/\((Rows.framePlansRow.loopsOut==Tryz.f4.resultTypes.toList.any (fun t=>Tryz.pinned.checked.prog.loopsFrom t)))=true:=by
 have h:((Rows.framePlansRow.wf (OpenSpec.ofChange Rows.framePlansSpec))&&((Tryz.f4.params.all (fun t=>Tryz.pinned.checked.prog.readableRec t))&&((namedTie Tryz.pinned.checked.prog Rows.framePlansRow.named Rows.framePlansSpec.vars)&&(((Rows.framePlansRow.stops==[]))&&(((Rows.framePlansRow.knobs==[]))&&(((Rows.framePlansRow.maps==(Tryz.f4.params.toList++Rows.framePlansSpec.plain.varTypes Tryz.pinned.checked.prog).any (fun t=>Tryz.pinned.checked.prog.mapsRec t)))&&(((Rows.framePlansRow.ifaces==(Tryz.f4.params.toList++Rows.framePlansSpec.plain.varTypes Tryz.pinned.checked.prog).any (fun t=>Tryz.pinned.checked.prog.ifacesRec t)))&&(((Rows.framePlansRow.mapsOut==Tryz.pinned.checked.prog.mapsAmong Tryz.f4.resultTypes.toList))&&(((Rows.framePlansRow.loops==(Tryz.f4.params.toList++Rows.framePlansSpec.plain.varTypes Tryz.pinned.checked.prog).any (fun t=>Tryz.pinned.checked.prog.loopsFrom t)))&&(((Rows.framePlansRow.wideKeys==(Tryz.f4.params.toList++Rows.framePlansSpec.plain.varTypes Tryz.pinned.checked.prog++Tryz.f4.resultTypes.toList).any (fun t=>Tryz.pinned.checked.prog.wideKeysFrom t)))&&((Rows.framePlansSpec.vars.all (fun n=>Tryz.pinned.checked.prog.varReadable n))&&((Tryz.f4.resultTypes.all (fun t=>Tryz.pinned.checked.prog.readableRec t&&decide (t<Tryz.pinned.checked.prog.types.size)))&&(((Rows.framePlansRow.ifacesOut==Tryz.f4.resultTypes.toList.any (fun t=>Tryz.pinned.checked.prog.ifacesRec t)))&&(((Rows.framePlansRow.loopsOut==Tryz.f4.resultTypes.toList.any (fun t=>Tryz.pinned.checked.prog.loopsFrom t)))))))))))))))))=true:=by kernel_rfl
 simpa only [Bool.and_eq_true] using h
def tR:((Rows.framePlansRow.inPlace==Tryz.pinned.checked.prog.inPlace 4))=true/\((Rows.framePlansRow.unfollowed==Tryz.pinned.checked.prog.unfollowed 4))=true/\((Rows.framePlansRow.recurses==Tryz.pinned.checked.prog.recurses 4))=true/\((Rows.framePlansRow.named==Tryz.pinned.checked.prog.varsNamed 4))=true:=by
 have h:(((Rows.framePlansRow.inPlace==Tryz.pinned.checked.prog.inPlace 4))&&(((Rows.framePlansRow.unfollowed==Tryz.pinned.checked.prog.unfollowed 4))&&(((Rows.framePlansRow.recurses==Tryz.pinned.checked.prog.recurses 4))&&(((Rows.framePlansRow.named==Tryz.pinned.checked.prog.varsNamed 4))))))=true:=by kernel_rfl
 simpa only [Bool.and_eq_true] using h
def n9:((Rows.framePlansRow.plainKeys==Tryz.pinned.checked.prog.plainKeys))=true/\(Rows.framePlansRow.shortTexts.isNone)=true/\((Rows.framePlansRow.lifted==Tryz.pinned.checked.prog.liftsFinal))=true/\((Tryz.pinned.checked.prog.make==some Rows.framePlansRow.make))=true/\((Rows.framePlansRow.pinned==Rows.framePlansRow.pinnedBy))=true/\((Rows.framePlansRow.veiled==(Tryz.f4.params.toList++Rows.framePlansSpec.plain.varTypes Tryz.pinned.checked.prog++Tryz.f4.resultTypes.toList).any (fun t=>Tryz.pinned.checked.prog.veiledRec t)))=true/\(Rows.framePlansRow.veiledFits Tryz.pinned.checked.prog Tryz.f4.params.toList (Tryz.f4.params.toList++Rows.framePlansSpec.plain.varTypes Tryz.pinned.checked.prog++Tryz.f4.resultTypes.toList))=true:=by
 have h:(((Rows.framePlansRow.plainKeys==Tryz.pinned.checked.prog.plainKeys))&&((Rows.framePlansRow.shortTexts.isNone)&&(((Rows.framePlansRow.lifted==Tryz.pinned.checked.prog.liftsFinal))&&(((Tryz.pinned.checked.prog.make==some Rows.framePlansRow.make))&&(((Rows.framePlansRow.pinned==Rows.framePlansRow.pinnedBy))&&(((Rows.framePlansRow.veiled==(Tryz.f4.params.toList++Rows.framePlansSpec.plain.varTypes Tryz.pinned.checked.prog++Tryz.f4.resultTypes.toList).any (fun t=>Tryz.pinned.checked.prog.veiledRec t)))&&((Rows.framePlansRow.veiledFits Tryz.pinned.checked.prog Tryz.f4.params.toList (Tryz.f4.params.toList++Rows.framePlansSpec.plain.varTypes Tryz.pinned.checked.prog++Tryz.f4.resultTypes.toList)))))))))=true:=by kernel_rfl
 simpa only [Bool.and_eq_true] using h
def By:joinedFacts Tryz.pinned.checked.prog 4 Tryz.f4 Rows.framePlansSpec Rows.framePlansRow=true:=by
 unfold joinedFacts
 exact gk (gk (gk (gk (gk (gk (gk (gk (gk (gk (gk (gk (gk (gk (gk (gk (gk (gk (gk (gk (gk (gk (gk (gk (gk (gk (gk (gk (gk (gk (gk (gM.1) (y3.1)) (y3.2.1)) (gM.2.1)) (gM.2.2.1)) (gM.2.2.2.1)) (y3.2.2.1)) (gM.2.2.2.2.1)) (y3.2.2.2.1)) (tR.1)) (tR.2.1)) (tR.2.2.1)) (tR.2.2.2)) (gM.2.2.2.2.2.1)) (gM.2.2.2.2.2.2.1)) (gM.2.2.2.2.2.2.2.1)) (gM.2.2.2.2.2.2.2.2.1)) (gM.2.2.2.2.2.2.2.2.2.1)) (gM.2.2.2.2.2.2.2.2.2.2.1)) (gM.2.2.2.2.2.2.2.2.2.2.2.1)) (gM.2.2.2.2.2.2.2.2.2.2.2.2.1)) (gM.2.2.2.2.2.2.2.2.2.2.2.2.2)) (n9.1)) (n9.2.1)) (y3.2.2.2.2.1)) (y3.2.2.2.2.2)) (n9.2.2.1)) (n9.2.2.2.1)) (by kernel_rfl)) (n9.2.2.2.2.1)) (n9.2.2.2.2.2.1)) (n9.2.2.2.2.2.2)
theorem framePlans_said:Rows.FramePlansSaid:=
 OpenClaim.holds_of_wide 4 Tryz.f4 rfl rfl rfl rfl rfl rfl rfl ⟨rfl,rfl,rfl,rfl,rfl⟩ rfl rfl rfl rfl rfl Co Tryz.func4 By
  (of_decide_eq_true (by kernel_rfl)) (by unfold Func.isWrapper;first|(rw [if_pos (by decide+kernel)];kernel_rfl)|(rw [if_neg (by decide+kernel)];exact⟨rfl,rfl⟩))
  (fun os started hb enc _=>Bx os started hb enc)
#print axioms framePlans_said
end Go.Proofs.YtdohlidddcgfjaaGreat

