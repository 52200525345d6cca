/- bR of this claim: FramePlanBytes. -/
import Derived.Test.YtdohlidddcgfjaaGreatFbA0
import Derived.Test.YtdohlidddcgfjaaGreatFbP27
import Derived.Test.YtdohlidddcgfjaaGreatFbH15
set_option linter.all false
namespace Go.Proofs.YtdohlidddcgfjaaGreat
open Go Go.ChangeShapes Go.WideShapes Go.ChangeAt Go.RowKit

set_option maxRecDepth 100000 in
def uq(os:Os)(started:os.Started)(h2:Type)(enc:TypeId×Value->h2):
  ReturnsInHanded {} Tryz.checked os 5 .any (Rows.framePlanBytesSpec.pre6 enc Tryz.prog Tryz.f5 Rows.framePlanBytesRow.domain false) (Rows.framePlanBytesSpec.post enc Tryz.prog Tryz.f5 false true false false):=by
 refine returnsInHanded_of_change (C:=Tryz.checked) Rf started (by kernel_rfl) Tryz.func5
  (ChangeSpec.witness6 (enc:=enc) (C:=Tryz.checked) false ⟨#[],#[.slice none 0 0],[]⟩ 8 (by kernel_rfl) (by kernel_rfl) (by kernel_rfl) (by kernel_rfl)) ?_
 intro hb base args ds gs before hval0 hW hcnd _
 have hval: ∀(j:Nat) t v,Tryz.f5.params[j]? =some t->args[j]? =some v->Value.okWide Tryz.prog hb .any base t v:=hval0
 have hW' :=hW
 obtain⟨p,q,hA0,hV,hbf,hfz,hnd⟩:=hW
 have hA:DataW.TrodAll enc Tryz.prog hb 0 (fun _=>true) true Tryz.f5.params.toList args.toList ds p:=hA0
 have hgs:gs=[]:=by
  cases gs with
  |nil=>rfl
  |cons g gs=>exact hV.elim
 rw [Tryz.params5]at hA hval
 obtain⟨v0,d0,hargs,hds,h0⟩:=trodAll_one hA
 obtain⟨a0,ha0,ho0⟩:=PR (Tb enc hb) (Q8 Q9) rfl h0 (GS Tryz.underlying37 (hval 0 37 v0 rfl (by rw [hargs];rfl)))
 have hcall:=T6 a0 (u7 a0 ho0) hb (Gj hb) [v0] (Q6 hb (fun _ h=>by cases h) (fun _ _=>trivial)) ⟨ha0,trivial⟩
 have hargs' :args=[v0].toArray:=hargs
 rw [<-hargs']at hcall
 refine hcall.mono fun e W' ⟨v,S',he,hext,_,hv⟩=>⟨v,he,?_⟩
 rw [ie.1 hv]
 exact ML (tb:=4) ON (by rw [Tryz.params5];decide+kernel) rfl rfl Tryz.underlying4 hW' (by rw [hgs,hds];rfl) (EZ hext)
def u6:Tryz.pinned.checked.prog.funcNamed Rows.framePlanBytesRow.func=some 5:=by kernel_rfl
def Hi:false=Rows.framePlanBytesRow.goesBy Tryz.pinned.checked.prog:=by kernel_rfl
def db:(Rows.framePlanBytesRow.wf (OpenSpec.ofChange Rows.framePlanBytesSpec))=true/\(Tryz.f5.params.all (fun t=>Tryz.pinned.checked.prog.readableRec t))=true/\(namedTie Tryz.pinned.checked.prog Rows.framePlanBytesRow.named Rows.framePlanBytesSpec.vars)=true/\((Rows.framePlanBytesRow.stops==[]))=true/\((Rows.framePlanBytesRow.knobs==[]))=true/\((Rows.framePlanBytesRow.maps==(Tryz.f5.params.toList++Rows.framePlanBytesSpec.plain.varTypes Tryz.pinned.checked.prog).any (fun t=>Tryz.pinned.checked.prog.mapsRec t)))=true/\((Rows.framePlanBytesRow.ifaces==(Tryz.f5.params.toList++Rows.framePlanBytesSpec.plain.varTypes Tryz.pinned.checked.prog).any (fun t=>Tryz.pinned.checked.prog.ifacesRec t)))=true/\((Rows.framePlanBytesRow.mapsOut==Tryz.pinned.checked.prog.mapsAmong Tryz.f5.resultTypes.toList))=true/\((Rows.framePlanBytesRow.loops==(Tryz.f5.params.toList++Rows.framePlanBytesSpec.plain.varTypes Tryz.pinned.checked.prog).any (fun t=>Tryz.pinned.checked.prog.loopsFrom t)))=true/\((Rows.framePlanBytesRow.wideKeys==(Tryz.f5.params.toList++Rows.framePlanBytesSpec.plain.varTypes Tryz.pinned.checked.prog++Tryz.f5.resultTypes.toList).any (fun t=>Tryz.pinned.checked.prog.wideKeysFrom t)))=true/\(Rows.framePlanBytesSpec.vars.all (fun n=>Tryz.pinned.checked.prog.varReadable n))=true/\(Tryz.f5.resultTypes.all (fun t=>Tryz.pinned.checked.prog.readableRec t&&decide (t<Tryz.pinned.checked.prog.types.size)))=true/\((Rows.framePlanBytesRow.ifacesOut==Tryz.f5.resultTypes.toList.any (fun t=>Tryz.pinned.checked.prog.ifacesRec t)))=true/\((Rows.framePlanBytesRow.loopsOut==Tryz.f5.resultTypes.toList.any (fun t=>Tryz.pinned.checked.prog.loopsFrom t)))=true:=by
 have h:((Rows.framePlanBytesRow.wf (OpenSpec.ofChange Rows.framePlanBytesSpec))&&((Tryz.f5.params.all (fun t=>Tryz.pinned.checked.prog.readableRec t))&&((namedTie Tryz.pinned.checked.prog Rows.framePlanBytesRow.named Rows.framePlanBytesSpec.vars)&&(((Rows.framePlanBytesRow.stops==[]))&&(((Rows.framePlanBytesRow.knobs==[]))&&(((Rows.framePlanBytesRow.maps==(Tryz.f5.params.toList++Rows.framePlanBytesSpec.plain.varTypes Tryz.pinned.checked.prog).any (fun t=>Tryz.pinned.checked.prog.mapsRec t)))&&(((Rows.framePlanBytesRow.ifaces==(Tryz.f5.params.toList++Rows.framePlanBytesSpec.plain.varTypes Tryz.pinned.checked.prog).any (fun t=>Tryz.pinned.checked.prog.ifacesRec t)))&&(((Rows.framePlanBytesRow.mapsOut==Tryz.pinned.checked.prog.mapsAmong Tryz.f5.resultTypes.toList))&&(((Rows.framePlanBytesRow.loops==(Tryz.f5.params.toList++Rows.framePlanBytesSpec.plain.varTypes Tryz.pinned.checked.prog).any (fun t=>Tryz.pinned.checked.prog.loopsFrom t)))&&(((Rows.framePlanBytesRow.wideKeys==(Tryz.f5.params.toList++Rows.framePlanBytesSpec.plain.varTypes Tryz.pinned.checked.prog++Tryz.f5.resultTypes.toList).any (fun t=>Tryz.pinned.checked.prog.wideKeysFrom t)))&&((Rows.framePlanBytesSpec.vars.all (fun n=>Tryz.pinned.checked.prog.varReadable n))&&((Tryz.f5.resultTypes.all (fun t=>Tryz.pinned.checked.prog.readableRec t&&decide (t<Tryz.pinned.checked.prog.types.size)))&&(((Rows.framePlanBytesRow.ifacesOut==Tryz.f5.resultTypes.toList.any (fun t=>Tryz.pinned.checked.prog.ifacesRec t)))&&(((Rows.framePlanBytesRow.loopsOut==Tryz.f5.resultTypes.toList.any (fun t=>Tryz.pinned.checked.prog.loopsFrom t)))))))))))))))))=true:=by kernel_rfl
 simpa only [Bool.and_eq_true] using h
def ne:((Rows.framePlanBytesRow.inPlace==Tryz.pinned.checked.prog.inPlace 5))=true/\((Rows.framePlanBytesRow.unfollowed==Tryz.pinned.checked.prog.unfollowed 5))=true/\((Rows.framePlanBytesRow.recurses==Tryz.pinned.checked.prog.recurses 5))=true/\((Rows.framePlanBytesRow.named==Tryz.pinned.checked.prog.varsNamed 5))=true:=by
 have h:(((Rows.framePlanBytesRow.inPlace==Tryz.pinned.checked.prog.inPlace 5))&&(((Rows.framePlanBytesRow.unfollowed==Tryz.pinned.checked.prog.unfollowed 5))&&(((Rows.framePlanBytesRow.recurses==Tryz.pinned.checked.prog.recurses 5))&&(((Rows.framePlanBytesRow.named==Tryz.pinned.checked.prog.varsNamed 5))))))=true:=by kernel_rfl
 simpa only [Bool.and_eq_true] using h
def ip:((Rows.framePlanBytesRow.plainKeys==Tryz.pinned.checked.prog.plainKeys))=true/\(Rows.framePlanBytesRow.shortTexts.isNone)=true/\((Rows.framePlanBytesRow.lifted==Tryz.pinned.checked.prog.liftsFinal))=true/\((Tryz.pinned.checked.prog.make==some Rows.framePlanBytesRow.make))=true/\((Rows.framePlanBytesRow.pinned==Rows.framePlanBytesRow.pinnedBy))=true/\((Rows.framePlanBytesRow.veiled==(Tryz.f5.params.toList++Rows.framePlanBytesSpec.plain.varTypes Tryz.pinned.checked.prog++Tryz.f5.resultTypes.toList).any (fun t=>Tryz.pinned.checked.prog.veiledRec t)))=true/\(Rows.framePlanBytesRow.veiledFits Tryz.pinned.checked.prog Tryz.f5.params.toList (Tryz.f5.params.toList++Rows.framePlanBytesSpec.plain.varTypes Tryz.pinned.checked.prog++Tryz.f5.resultTypes.toList))=true:=by
 have h:(((Rows.framePlanBytesRow.plainKeys==Tryz.pinned.checked.prog.plainKeys))&&((Rows.framePlanBytesRow.shortTexts.isNone)&&(((Rows.framePlanBytesRow.lifted==Tryz.pinned.checked.prog.liftsFinal))&&(((Tryz.pinned.checked.prog.make==some Rows.framePlanBytesRow.make))&&(((Rows.framePlanBytesRow.pinned==Rows.framePlanBytesRow.pinnedBy))&&(((Rows.framePlanBytesRow.veiled==(Tryz.f5.params.toList++Rows.framePlanBytesSpec.plain.varTypes Tryz.pinned.checked.prog++Tryz.f5.resultTypes.toList).any (fun t=>Tryz.pinned.checked.prog.veiledRec t)))&&((Rows.framePlanBytesRow.veiledFits Tryz.pinned.checked.prog Tryz.f5.params.toList (Tryz.f5.params.toList++Rows.framePlanBytesSpec.plain.varTypes Tryz.pinned.checked.prog++Tryz.f5.resultTypes.toList)))))))))=true:=by kernel_rfl
 simpa only [Bool.and_eq_true] using h
def ur:joinedFacts Tryz.pinned.checked.prog 5 Tryz.f5 Rows.framePlanBytesSpec Rows.framePlanBytesRow=true:=by
 unfold joinedFacts
 exact em (em (em (em (em (em (em (em (em (em (em (em (em (em (em (em (em (em (em (em (em (em (em (em (em (em (em (em (em (em (em (db.1) (vE.1)) (vE.2.1)) (db.2.1)) (db.2.2.1)) (db.2.2.2.1)) (vE.2.2.1)) (db.2.2.2.2.1)) (vE.2.2.2.1)) (ne.1)) (ne.2.1)) (ne.2.2.1)) (ne.2.2.2)) (db.2.2.2.2.2.1)) (db.2.2.2.2.2.2.1)) (db.2.2.2.2.2.2.2.1)) (db.2.2.2.2.2.2.2.2.1)) (db.2.2.2.2.2.2.2.2.2.1)) (db.2.2.2.2.2.2.2.2.2.2.1)) (db.2.2.2.2.2.2.2.2.2.2.2.1)) (db.2.2.2.2.2.2.2.2.2.2.2.2.1)) (db.2.2.2.2.2.2.2.2.2.2.2.2.2)) (ip.1)) (ip.2.1)) (vE.2.2.2.2.1)) (vE.2.2.2.2.2)) (ip.2.2.1)) (ip.2.2.2.1)) (by kernel_rfl)) (ip.2.2.2.2.1)) (ip.2.2.2.2.2.1)) (ip.2.2.2.2.2.2)
theorem framePlanBytes_said:Rows.FramePlanBytesSaid:=
 OpenClaim.holds_of_wide 5 Tryz.f5 rfl rfl rfl rfl rfl rfl rfl ⟨rfl,rfl,rfl,rfl,rfl⟩ rfl rfl rfl rfl rfl u6 Tryz.func5 ur
  (of_decide_eq_true (by kernel_rfl)) (by unfold Func.isWrapper;first|(rw [if_pos (by decide+kernel)];kernel_rfl)|(rw [if_neg (by decide+kernel)];exact⟨rfl,rfl⟩))
  (fun os started h2 enc _=>uq os started h2 enc)
#print axioms framePlanBytes_said
end Go.Proofs.YtdohlidddcgfjaaGreat

