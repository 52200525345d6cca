/- bT of this claim: FrameBack. -/
import Derived.Test.YtdohlidddcgfjaaGreatFdA0
import Derived.Test.YtdohlidddcgfjaaGreatFdP27
import Derived.Test.YtdohlidddcgfjaaGreatFdH26
set_option linter.all false
namespace Go.Proofs.YtdohlidddcgfjaaGreat
open Go Go.ChangeShapes Go.WideShapes Go.ChangeAt Go.RowKit

set_option maxRecDepth 100000 in
def B2(os:Os)(started:os.Started)(hg:Type)(enc:TypeId×Value->hg):
  ReturnsInHanded {} Tryz.checked os 7 .any (Rows.frameBackSpec.pre6 enc Tryz.prog Tryz.f7 Rows.frameBackRow.domain false) (Rows.frameBackSpec.post enc Tryz.prog Tryz.f7 false true false false):=by
 refine returnsInHanded_of_change (C:=Tryz.checked) Xk started (by kernel_rfl) Tryz.func7
  (ChangeSpec.witness6 (enc:=enc) (C:=Tryz.checked) false ⟨#[],#[.agg #[.int .i64 0,.int .i64 0,.int .i64 0,.int .i64 0,.int .i64 0,.int .i64 0,.slice none 0 0,.int .i64 0,.int .u32 0,.int .u64 0,.int .u64 0,.slice none 0 0,.bool false,.int .u64 0,.int .i64 0],.agg #[.int .i64 0,.int .i64 0,.int .i64 0,.int .i64 0,.int .i64 0,.int .i64 0,.slice none 0 0,.int .i64 0,.int .u32 0,.int .u64 0,.int .u64 0,.slice none 0 0,.bool false,.int .u64 0,.int .i64 0]],[]⟩ 8 (by kernel_rfl) (by kernel_rfl) (by kernel_rfl) (by kernel_rfl)) ?_
 intro W base args ds gs before hval0 hW hcnd _
 have hval: ∀(j:Nat) t v,Tryz.f7.params[j]? =some t->args[j]? =some v->Value.okWide Tryz.prog W .any base t v:=hval0
 have hW' :=hW
 obtain⟨p,q,hA0,hV,hbf,hfz,hnd⟩:=hW
 have hA:DataW.TrodAll enc Tryz.prog W 0 (fun _=>true) true Tryz.f7.params.toList args.toList ds p:=hA0
 have hgs:gs=[]:=by
  cases gs with
  |nil=>rfl
  |cons g gs=>exact hV.elim
 rw [Tryz.params7]at hA hval
 obtain⟨v0,v1,d0,d1,p0,p1,hargs,hds,hps,h0,Y⟩:=trodAll_two hA
 obtain⟨a0,ha0,ho0⟩:=OO (V0 enc W) NK rfl h0 (Bk Tryz.underlying34 (hval 0 34 v0 rfl (by rw [hargs];rfl)))
 obtain⟨a1,ha1,ho1⟩:=OO (V0 enc W) NK rfl Y (Bk Tryz.underlying34 (hval 1 34 v1 rfl (by rw [hargs];rfl)))
 have hcall:=aah a0 a1 (C8 a0 ho0 a1 ho1) W (Kg W) [v0,v1] (Xf W (fun _ h=>by cases h) (fun _ _=>trivial)) ⟨ha0,ha1,trivial⟩
 have hargs' :args=[v0,v1].toArray:=hargs
 rw [<-hargs']at hcall
 refine hcall.mono fun e W' ⟨v,S',he,hext,_,hv⟩=>⟨v,he,?_⟩
 rw [jp.1 hv]
 exact Se (tb:=4) Uy (by rw [Tryz.params7];decide+kernel) rfl rfl Tryz.underlying4 hW' (by rw [hgs,hds];rfl) (IU hext)
def C7:Tryz.pinned.checked.prog.funcNamed Rows.frameBackRow.func=some 7:=by kernel_rfl
def Sv:false=Rows.frameBackRow.goesBy Tryz.pinned.checked.prog:=by kernel_rfl
def gN:(Rows.frameBackRow.wf (OpenSpec.ofChange Rows.frameBackSpec))=true/\(Tryz.f7.params.all (fun t=>Tryz.pinned.checked.prog.readableRec t))=true/\(namedTie Tryz.pinned.checked.prog Rows.frameBackRow.named Rows.frameBackSpec.vars)=true/\((Rows.frameBackRow.stops==[]))=true/\((Rows.frameBackRow.knobs==[]))=true/\((Rows.frameBackRow.maps==(Tryz.f7.params.toList++Rows.frameBackSpec.plain.varTypes Tryz.pinned.checked.prog).any (fun t=>Tryz.pinned.checked.prog.mapsRec t)))=true/\((Rows.frameBackRow.ifaces==(Tryz.f7.params.toList++Rows.frameBackSpec.plain.varTypes Tryz.pinned.checked.prog).any (fun t=>Tryz.pinned.checked.prog.ifacesRec t)))=true/\((Rows.frameBackRow.mapsOut==Tryz.pinned.checked.prog.mapsAmong Tryz.f7.resultTypes.toList))=true/\((Rows.frameBackRow.loops==(Tryz.f7.params.toList++Rows.frameBackSpec.plain.varTypes Tryz.pinned.checked.prog).any (fun t=>Tryz.pinned.checked.prog.loopsFrom t)))=true/\((Rows.frameBackRow.wideKeys==(Tryz.f7.params.toList++Rows.frameBackSpec.plain.varTypes Tryz.pinned.checked.prog++Tryz.f7.resultTypes.toList).any (fun t=>Tryz.pinned.checked.prog.wideKeysFrom t)))=true/\(Rows.frameBackSpec.vars.all (fun n=>Tryz.pinned.checked.prog.varReadable n))=true/\(Tryz.f7.resultTypes.all (fun t=>Tryz.pinned.checked.prog.readableRec t&&decide (t<Tryz.pinned.checked.prog.types.size)))=true/\((Rows.frameBackRow.ifacesOut==Tryz.f7.resultTypes.toList.any (fun t=>Tryz.pinned.checked.prog.ifacesRec t)))=true/\((Rows.frameBackRow.loopsOut==Tryz.f7.resultTypes.toList.any (fun t=>Tryz.pinned.checked.prog.loopsFrom t)))=true:=by
 have h:((Rows.frameBackRow.wf (OpenSpec.ofChange Rows.frameBackSpec))&&((Tryz.f7.params.all (fun t=>Tryz.pinned.checked.prog.readableRec t))&&((namedTie Tryz.pinned.checked.prog Rows.frameBackRow.named Rows.frameBackSpec.vars)&&(((Rows.frameBackRow.stops==[]))&&(((Rows.frameBackRow.knobs==[]))&&(((Rows.frameBackRow.maps==(Tryz.f7.params.toList++Rows.frameBackSpec.plain.varTypes Tryz.pinned.checked.prog).any (fun t=>Tryz.pinned.checked.prog.mapsRec t)))&&(((Rows.frameBackRow.ifaces==(Tryz.f7.params.toList++Rows.frameBackSpec.plain.varTypes Tryz.pinned.checked.prog).any (fun t=>Tryz.pinned.checked.prog.ifacesRec t)))&&(((Rows.frameBackRow.mapsOut==Tryz.pinned.checked.prog.mapsAmong Tryz.f7.resultTypes.toList))&&(((Rows.frameBackRow.loops==(Tryz.f7.params.toList++Rows.frameBackSpec.plain.varTypes Tryz.pinned.checked.prog).any (fun t=>Tryz.pinned.checked.prog.loopsFrom t)))&&(((Rows.frameBackRow.wideKeys==(Tryz.f7.params.toList++Rows.frameBackSpec.plain.varTypes Tryz.pinned.checked.prog++Tryz.f7.resultTypes.toList).any (fun t=>Tryz.pinned.checked.prog.wideKeysFrom t)))&&((Rows.frameBackSpec.vars.all (fun n=>Tryz.pinned.checked.prog.varReadable n))&&((Tryz.f7.resultTypes.all (fun t=>Tryz.pinned.checked.prog.readableRec t&&decide (t<Tryz.pinned.checked.prog.types.size)))&&(((Rows.frameBackRow.ifacesOut==Tryz.f7.resultTypes.toList.any (fun t=>Tryz.pinned.checked.prog.ifacesRec t)))&&(((Rows.frameBackRow.loopsOut==Tryz.f7.resultTypes.toList.any (fun t=>Tryz.pinned.checked.prog.loopsFrom t)))))))))))))))))=true:=by kernel_rfl
 simpa only [Bool.and_eq_true] using h
def ur:((Rows.frameBackRow.inPlace==Tryz.pinned.checked.prog.inPlace 7))=true/\((Rows.frameBackRow.unfollowed==Tryz.pinned.checked.prog.unfollowed 7))=true/\((Rows.frameBackRow.recurses==Tryz.pinned.checked.prog.recurses 7))=true/\((Rows.frameBackRow.named==Tryz.pinned.checked.prog.varsNamed 7))=true:=by
 have h:(((Rows.frameBackRow.inPlace==Tryz.pinned.checked.prog.inPlace 7))&&(((Rows.frameBackRow.unfollowed==Tryz.pinned.checked.prog.unfollowed 7))&&(((Rows.frameBackRow.recurses==Tryz.pinned.checked.prog.recurses 7))&&(((Rows.frameBackRow.named==Tryz.pinned.checked.prog.varsNamed 7))))))=true:=by kernel_rfl
 simpa only [Bool.and_eq_true] using h
def ow:((Rows.frameBackRow.plainKeys==Tryz.pinned.checked.prog.plainKeys))=true/\(Rows.frameBackRow.shortTexts.isNone)=true/\((Rows.frameBackRow.lifted==Tryz.pinned.checked.prog.liftsFinal))=true/\((Tryz.pinned.checked.prog.make==some Rows.frameBackRow.make))=true/\((Rows.frameBackRow.pinned==Rows.frameBackRow.pinnedBy))=true/\((Rows.frameBackRow.veiled==(Tryz.f7.params.toList++Rows.frameBackSpec.plain.varTypes Tryz.pinned.checked.prog++Tryz.f7.resultTypes.toList).any (fun t=>Tryz.pinned.checked.prog.veiledRec t)))=true/\(Rows.frameBackRow.veiledFits Tryz.pinned.checked.prog Tryz.f7.params.toList (Tryz.f7.params.toList++Rows.frameBackSpec.plain.varTypes Tryz.pinned.checked.prog++Tryz.f7.resultTypes.toList))=true:=by
 have h:(((Rows.frameBackRow.plainKeys==Tryz.pinned.checked.prog.plainKeys))&&((Rows.frameBackRow.shortTexts.isNone)&&(((Rows.frameBackRow.lifted==Tryz.pinned.checked.prog.liftsFinal))&&(((Tryz.pinned.checked.prog.make==some Rows.frameBackRow.make))&&(((Rows.frameBackRow.pinned==Rows.frameBackRow.pinnedBy))&&(((Rows.frameBackRow.veiled==(Tryz.f7.params.toList++Rows.frameBackSpec.plain.varTypes Tryz.pinned.checked.prog++Tryz.f7.resultTypes.toList).any (fun t=>Tryz.pinned.checked.prog.veiledRec t)))&&((Rows.frameBackRow.veiledFits Tryz.pinned.checked.prog Tryz.f7.params.toList (Tryz.f7.params.toList++Rows.frameBackSpec.plain.varTypes Tryz.pinned.checked.prog++Tryz.f7.resultTypes.toList)))))))))=true:=by kernel_rfl
 simpa only [Bool.and_eq_true] using h
def B3:joinedFacts Tryz.pinned.checked.prog 7 Tryz.f7 Rows.frameBackSpec Rows.frameBackRow=true:=by
 unfold joinedFacts
 exact fF (fF (fF (fF (fF (fF (fF (fF (fF (fF (fF (fF (fF (fF (fF (fF (fF (fF (fF (fF (fF (fF (fF (fF (fF (fF (fF (fF (fF (fF (fF (gN.1) (yz.1)) (yz.2.1)) (gN.2.1)) (gN.2.2.1)) (gN.2.2.2.1)) (yz.2.2.1)) (gN.2.2.2.2.1)) (yz.2.2.2.1)) (ur.1)) (ur.2.1)) (ur.2.2.1)) (ur.2.2.2)) (gN.2.2.2.2.2.1)) (gN.2.2.2.2.2.2.1)) (gN.2.2.2.2.2.2.2.1)) (gN.2.2.2.2.2.2.2.2.1)) (gN.2.2.2.2.2.2.2.2.2.1)) (gN.2.2.2.2.2.2.2.2.2.2.1)) (gN.2.2.2.2.2.2.2.2.2.2.2.1)) (gN.2.2.2.2.2.2.2.2.2.2.2.2.1)) (gN.2.2.2.2.2.2.2.2.2.2.2.2.2)) (ow.1)) (ow.2.1)) (yz.2.2.2.2.1)) (yz.2.2.2.2.2)) (ow.2.2.1)) (ow.2.2.2.1)) (by kernel_rfl)) (ow.2.2.2.2.1)) (ow.2.2.2.2.2.1)) (ow.2.2.2.2.2.2)
theorem frameBack_said:Rows.FrameBackSaid:=
 OpenClaim.holds_of_wide 7 Tryz.f7 rfl rfl rfl rfl rfl rfl rfl ⟨rfl,rfl,rfl,rfl,rfl⟩ rfl rfl rfl rfl rfl C7 Tryz.func7 B3
  (of_decide_eq_true (by kernel_rfl)) (by unfold Func.isWrapper;first|(rw [if_pos (by decide+kernel)];kernel_rfl)|(rw [if_neg (by decide+kernel)];exact⟨rfl,rfl⟩))
  (fun os started hg enc _=>B2 os started hg enc)
#print axioms frameBack_said
end Go.Proofs.YtdohlidddcgfjaaGreat

