/- bO of this claim: FrameSealed. -/
import Derived.Test.YtdohlidddcgfjaaGreatFeA0
import Derived.Test.YtdohlidddcgfjaaGreatFeP28
import Derived.Test.YtdohlidddcgfjaaGreatFeH26
set_option linter.all false
namespace Go.Proofs.YtdohlidddcgfjaaGreat
open Go Go.ChangeShapes Go.WideShapes Go.ChangeAt Go.RowKit

set_option maxRecDepth 100000 in
def yr(os:Os)(started:os.Started)(h2:Type)(enc:TypeId×Value->h2):
  ReturnsInHanded {} Tryz.checked os 9 .any (Rows.frameSealedSpec.pre6 enc Tryz.prog Tryz.f9 Rows.frameSealedRow.domain false) (Rows.frameSealedSpec.post enc Tryz.prog Tryz.f9 false true false false):=by
 refine returnsInHanded_of_change (C:=Tryz.checked) Uv started (by kernel_rfl) Tryz.func9
  (ChangeSpec.witness6 (enc:=enc) (C:=Tryz.checked) false ⟨#[],#[.slice none 0 0],[]⟩ 8 (by kernel_rfl) (by kernel_rfl) (by kernel_rfl) (by kernel_rfl)) ?_
 intro hb base args ds gs before hval0 hW hcnd _
 have hval: ∀(j:Nat) t v,Tryz.f9.params[j]? =some t->args[j]? =some v->Value.okWide Tryz.prog hb .any base t v:=hval0
 have hW' :=hW
 obtain⟨p,q,hA0,hV,hbf,hfz,hnd⟩:=hW
 have hA:DataW.TrodAll enc Tryz.prog hb 0 (fun _=>true) true Tryz.f9.params.toList args.toList ds p:=hA0
 have hgs:gs=[]:=by
  cases gs with
  |nil=>rfl
  |cons g gs=>exact hV.elim
 rw [Tryz.params9]at hA hval
 obtain⟨v0,d0,hargs,hds,h0⟩:=trodAll_one hA
 obtain⟨a0,ha0,ho0⟩:=S2 (Wg enc hb) (Ur Us) rfl h0 (I9 Tryz.underlying37 (hval 0 37 v0 rfl (by rw [hargs];rfl)))
 have hcall:=WW a0 (zt a0 ho0) hb (Iv hb) [v0] (Un hb (fun _ h=>by cases h) (fun _ _=>trivial)) ⟨ha0,trivial⟩
 have hargs' :args=[v0].toArray:=hargs
 rw [<-hargs']at hcall
 refine hcall.mono fun e W' ⟨v,S',he,hext,_,hv⟩=>⟨v,he,?_⟩
 rw [iS.1 hv]
 exact PC (tb:=4) RU (by rw [Tryz.params9];decide+kernel) rfl rfl Tryz.underlying4 hW' (by rw [hgs,hds];rfl) (GU hext)
def zr:Tryz.pinned.checked.prog.funcNamed Rows.frameSealedRow.func=some 9:=by kernel_rfl
def NX:false=Rows.frameSealedRow.goesBy Tryz.pinned.checked.prog:=by kernel_rfl
def eO:(Rows.frameSealedRow.wf (OpenSpec.ofChange Rows.frameSealedSpec))=true/\(Tryz.f9.params.all (fun t=>Tryz.pinned.checked.prog.readableRec t))=true/\(namedTie Tryz.pinned.checked.prog Rows.frameSealedRow.named Rows.frameSealedSpec.vars)=true/\((Rows.frameSealedRow.stops==[]))=true/\((Rows.frameSealedRow.knobs==[]))=true/\((Rows.frameSealedRow.maps==(Tryz.f9.params.toList++Rows.frameSealedSpec.plain.varTypes Tryz.pinned.checked.prog).any (fun t=>Tryz.pinned.checked.prog.mapsRec t)))=true/\((Rows.frameSealedRow.ifaces==(Tryz.f9.params.toList++Rows.frameSealedSpec.plain.varTypes Tryz.pinned.checked.prog).any (fun t=>Tryz.pinned.checked.prog.ifacesRec t)))=true/\((Rows.frameSealedRow.mapsOut==Tryz.pinned.checked.prog.mapsAmong Tryz.f9.resultTypes.toList))=true/\((Rows.frameSealedRow.loops==(Tryz.f9.params.toList++Rows.frameSealedSpec.plain.varTypes Tryz.pinned.checked.prog).any (fun t=>Tryz.pinned.checked.prog.loopsFrom t)))=true/\((Rows.frameSealedRow.wideKeys==(Tryz.f9.params.toList++Rows.frameSealedSpec.plain.varTypes Tryz.pinned.checked.prog++Tryz.f9.resultTypes.toList).any (fun t=>Tryz.pinned.checked.prog.wideKeysFrom t)))=true/\(Rows.frameSealedSpec.vars.all (fun n=>Tryz.pinned.checked.prog.varReadable n))=true/\(Tryz.f9.resultTypes.all (fun t=>Tryz.pinned.checked.prog.readableRec t&&decide (t<Tryz.pinned.checked.prog.types.size)))=true/\((Rows.frameSealedRow.ifacesOut==Tryz.f9.resultTypes.toList.any (fun t=>Tryz.pinned.checked.prog.ifacesRec t)))=true/\((Rows.frameSealedRow.loopsOut==Tryz.f9.resultTypes.toList.any (fun t=>Tryz.pinned.checked.prog.loopsFrom t)))=true:=by
 have h:((Rows.frameSealedRow.wf (OpenSpec.ofChange Rows.frameSealedSpec))&&((Tryz.f9.params.all (fun t=>Tryz.pinned.checked.prog.readableRec t))&&((namedTie Tryz.pinned.checked.prog Rows.frameSealedRow.named Rows.frameSealedSpec.vars)&&(((Rows.frameSealedRow.stops==[]))&&(((Rows.frameSealedRow.knobs==[]))&&(((Rows.frameSealedRow.maps==(Tryz.f9.params.toList++Rows.frameSealedSpec.plain.varTypes Tryz.pinned.checked.prog).any (fun t=>Tryz.pinned.checked.prog.mapsRec t)))&&(((Rows.frameSealedRow.ifaces==(Tryz.f9.params.toList++Rows.frameSealedSpec.plain.varTypes Tryz.pinned.checked.prog).any (fun t=>Tryz.pinned.checked.prog.ifacesRec t)))&&(((Rows.frameSealedRow.mapsOut==Tryz.pinned.checked.prog.mapsAmong Tryz.f9.resultTypes.toList))&&(((Rows.frameSealedRow.loops==(Tryz.f9.params.toList++Rows.frameSealedSpec.plain.varTypes Tryz.pinned.checked.prog).any (fun t=>Tryz.pinned.checked.prog.loopsFrom t)))&&(((Rows.frameSealedRow.wideKeys==(Tryz.f9.params.toList++Rows.frameSealedSpec.plain.varTypes Tryz.pinned.checked.prog++Tryz.f9.resultTypes.toList).any (fun t=>Tryz.pinned.checked.prog.wideKeysFrom t)))&&((Rows.frameSealedSpec.vars.all (fun n=>Tryz.pinned.checked.prog.varReadable n))&&((Tryz.f9.resultTypes.all (fun t=>Tryz.pinned.checked.prog.readableRec t&&decide (t<Tryz.pinned.checked.prog.types.size)))&&(((Rows.frameSealedRow.ifacesOut==Tryz.f9.resultTypes.toList.any (fun t=>Tryz.pinned.checked.prog.ifacesRec t)))&&(((Rows.frameSealedRow.loopsOut==Tryz.f9.resultTypes.toList.any (fun t=>Tryz.pinned.checked.prog.loopsFrom t)))))))))))))))))=true:=by kernel_rfl
 simpa only [Bool.and_eq_true] using h
def qM:((Rows.frameSealedRow.inPlace==Tryz.pinned.checked.prog.inPlace 9))=true/\((Rows.frameSealedRow.unfollowed==Tryz.pinned.checked.prog.unfollowed 9))=true/\((Rows.frameSealedRow.recurses==Tryz.pinned.checked.prog.recurses 9))=true/\((Rows.frameSealedRow.named==Tryz.pinned.checked.prog.varsNamed 9))=true:=by
 have h:(((Rows.frameSealedRow.inPlace==Tryz.pinned.checked.prog.inPlace 9))&&(((Rows.frameSealedRow.unfollowed==Tryz.pinned.checked.prog.unfollowed 9))&&(((Rows.frameSealedRow.recurses==Tryz.pinned.checked.prog.recurses 9))&&(((Rows.frameSealedRow.named==Tryz.pinned.checked.prog.varsNamed 9))))))=true:=by kernel_rfl
 simpa only [Bool.and_eq_true] using h
def ll:((Rows.frameSealedRow.plainKeys==Tryz.pinned.checked.prog.plainKeys))=true/\(Rows.frameSealedRow.shortTexts.isNone)=true/\((Rows.frameSealedRow.lifted==Tryz.pinned.checked.prog.liftsFinal))=true/\((Tryz.pinned.checked.prog.make==some Rows.frameSealedRow.make))=true/\((Rows.frameSealedRow.pinned==Rows.frameSealedRow.pinnedBy))=true/\((Rows.frameSealedRow.veiled==(Tryz.f9.params.toList++Rows.frameSealedSpec.plain.varTypes Tryz.pinned.checked.prog++Tryz.f9.resultTypes.toList).any (fun t=>Tryz.pinned.checked.prog.veiledRec t)))=true/\(Rows.frameSealedRow.veiledFits Tryz.pinned.checked.prog Tryz.f9.params.toList (Tryz.f9.params.toList++Rows.frameSealedSpec.plain.varTypes Tryz.pinned.checked.prog++Tryz.f9.resultTypes.toList))=true:=by
 have h:(((Rows.frameSealedRow.plainKeys==Tryz.pinned.checked.prog.plainKeys))&&((Rows.frameSealedRow.shortTexts.isNone)&&(((Rows.frameSealedRow.lifted==Tryz.pinned.checked.prog.liftsFinal))&&(((Tryz.pinned.checked.prog.make==some Rows.frameSealedRow.make))&&(((Rows.frameSealedRow.pinned==Rows.frameSealedRow.pinnedBy))&&(((Rows.frameSealedRow.veiled==(Tryz.f9.params.toList++Rows.frameSealedSpec.plain.varTypes Tryz.pinned.checked.prog++Tryz.f9.resultTypes.toList).any (fun t=>Tryz.pinned.checked.prog.veiledRec t)))&&((Rows.frameSealedRow.veiledFits Tryz.pinned.checked.prog Tryz.f9.params.toList (Tryz.f9.params.toList++Rows.frameSealedSpec.plain.varTypes Tryz.pinned.checked.prog++Tryz.f9.resultTypes.toList)))))))))=true:=by kernel_rfl
 simpa only [Bool.and_eq_true] using h
def yu:joinedFacts Tryz.pinned.checked.prog 9 Tryz.f9 Rows.frameSealedSpec Rows.frameSealedRow=true:=by
 unfold joinedFacts
 exact eX (eX (eX (eX (eX (eX (eX (eX (eX (eX (eX (eX (eX (eX (eX (eX (eX (eX (eX (eX (eX (eX (eX (eX (eX (eX (eX (eX (eX (eX (eX (eO.1) (w4.1)) (w4.2.1)) (eO.2.1)) (eO.2.2.1)) (eO.2.2.2.1)) (w4.2.2.1)) (eO.2.2.2.2.1)) (w4.2.2.2.1)) (qM.1)) (qM.2.1)) (qM.2.2.1)) (qM.2.2.2)) (eO.2.2.2.2.2.1)) (eO.2.2.2.2.2.2.1)) (eO.2.2.2.2.2.2.2.1)) (eO.2.2.2.2.2.2.2.2.1)) (eO.2.2.2.2.2.2.2.2.2.1)) (eO.2.2.2.2.2.2.2.2.2.2.1)) (eO.2.2.2.2.2.2.2.2.2.2.2.1)) (eO.2.2.2.2.2.2.2.2.2.2.2.2.1)) (eO.2.2.2.2.2.2.2.2.2.2.2.2.2)) (ll.1)) (ll.2.1)) (w4.2.2.2.2.1)) (w4.2.2.2.2.2)) (ll.2.2.1)) (ll.2.2.2.1)) (by kernel_rfl)) (ll.2.2.2.2.1)) (ll.2.2.2.2.2.1)) (ll.2.2.2.2.2.2)
theorem frameSealed_said:Rows.FrameSealedSaid:=
 OpenClaim.holds_of_wide 9 Tryz.f9 rfl rfl rfl rfl rfl rfl rfl ⟨rfl,rfl,rfl,rfl,rfl⟩ rfl rfl rfl rfl rfl zr Tryz.func9 yu
  (of_decide_eq_true (by kernel_rfl)) (by unfold Func.isWrapper;first|(rw [if_pos (by decide+kernel)];kernel_rfl)|(rw [if_neg (by decide+kernel)];exact⟨rfl,rfl⟩))
  (fun os started h2 enc _=>yr os started h2 enc)
#print axioms frameSealed_said
end Go.Proofs.YtdohlidddcgfjaaGreat

