/- db of this claim: RewriteSides. -/
import Derived.Test.YtbmmihfagmchaaaGreatRaA0
import Derived.Test.YtbmmihfagmchaaaGreatRaP12
import Derived.Test.YtbmmihfagmchaaaGreatRaE1
set_option linter.all false
namespace Go.Proofs.YtbmmihfagmchaaaGreat
open Go Go.ChangeShapes Go.WideShapes Go.ChangeAt Go.RowKit

set_option maxRecDepth 100000 in
def qj(os:Os)(started:os.Started)(h2:Type)(enc:TypeId×Value->h2):
  ReturnsInHanded {} Tryz.checked os 3 .any (Rows.rewriteSidesSpec.pre6 enc Tryz.prog Tryz.f3 Rows.rewriteSidesRow.domain false) (Rows.rewriteSidesSpec.post enc Tryz.prog Tryz.f3 false true false false):=by
 refine returnsInHanded_of_change (C:=Tryz.checked) FL started (by kernel_rfl) Tryz.func3
  (ChangeSpec.witness6 (enc:=enc) (C:=Tryz.checked) false ⟨#[],#[.slice none 0 0,.slice none 0 0,.bool false],[]⟩ 8 (by kernel_rfl) (by kernel_rfl) (by kernel_rfl) (by kernel_rfl)) ?_
 intro W base args ds gs before hval0 hW hcnd _
 have hval: ∀(j:Nat) t v,Tryz.f3.params[j]? =some t->args[j]? =some v->Value.okWide Tryz.prog W .any base t v:=hval0
 have hW' :=hW
 obtain⟨p,q,hA0,hV,hbf,hfz,hnd⟩:=hW
 have hA:DataW.TrodAll enc Tryz.prog W 0 (fun _=>true) true Tryz.f3.params.toList args.toList ds p:=hA0
 have hgs:gs=[]:=by
  cases gs with
  |nil=>rfl
  |cons g gs=>exact hV.elim
 rw [Tryz.params3]at hA hval
 obtain⟨v0,v1,v2,d0,d1,d2,p0,p1,p2,hargs,hds,hps,h0,Y,H⟩:=trodAll_three hA
 obtain⟨a0,ha0,ho0⟩:=xn (GZ enc W) (zx Cn) rfl h0 (s8 Tryz.underlying22 (hval 0 22 v0 rfl (by rw [hargs];rfl)))
 obtain⟨a1,ha1,ho1⟩:=xn (GY enc W) (zx nW) rfl Y (s8 Tryz.underlying23 (hval 1 23 v1 rfl (by rw [hargs];rfl)))
 obtain⟨a2,ha2,ho2⟩:=xn (Ir enc W) nW rfl H (Aa Tryz.underlying4 (hval 2 4 v2 rfl (by rw [hargs];rfl)))
 have hcall:=Hq a0 a1 a2 (rn a0 a1 a2) W (wT W) [v0,v1,v2] (FJ W (fun _ h=>by cases h) (fun _ _=>trivial)) ⟨ha0,ha1,ha2,trivial⟩
 have hargs' :args=[v0,v1,v2].toArray:=hargs
 rw [<-hargs']at hcall
 refine hcall.mono fun e W' ⟨v,S',he,hext,_,hv⟩=>⟨v,he,?_⟩
 rw [fz.1 hv]
 exact CH (tb:=4) D9 (by rw [Tryz.params3];decide+kernel) rfl rfl Tryz.underlying4 hW' (by rw [hgs,hds];rfl) (xm hext)
def qI:Tryz.pinned.checked.prog.funcNamed Rows.rewriteSidesRow.func=some 3:=by kernel_rfl
def At:false=Rows.rewriteSidesRow.goesBy Tryz.pinned.checked.prog:=by kernel_rfl
def cX:(Rows.rewriteSidesRow.wf (OpenSpec.ofChange Rows.rewriteSidesSpec))=true/\(Tryz.f3.params.all (fun t=>Tryz.pinned.checked.prog.readableRec t))=true/\(namedTie Tryz.pinned.checked.prog Rows.rewriteSidesRow.named Rows.rewriteSidesSpec.vars)=true/\((Rows.rewriteSidesRow.stops==[]))=true/\((Rows.rewriteSidesRow.knobs==[]))=true/\((Rows.rewriteSidesRow.maps==(Tryz.f3.params.toList++Rows.rewriteSidesSpec.plain.varTypes Tryz.pinned.checked.prog).any (fun t=>Tryz.pinned.checked.prog.mapsRec t)))=true/\((Rows.rewriteSidesRow.ifaces==(Tryz.f3.params.toList++Rows.rewriteSidesSpec.plain.varTypes Tryz.pinned.checked.prog).any (fun t=>Tryz.pinned.checked.prog.ifacesRec t)))=true/\((Rows.rewriteSidesRow.mapsOut==Tryz.pinned.checked.prog.mapsAmong Tryz.f3.resultTypes.toList))=true/\((Rows.rewriteSidesRow.loops==(Tryz.f3.params.toList++Rows.rewriteSidesSpec.plain.varTypes Tryz.pinned.checked.prog).any (fun t=>Tryz.pinned.checked.prog.loopsFrom t)))=true/\((Rows.rewriteSidesRow.wideKeys==(Tryz.f3.params.toList++Rows.rewriteSidesSpec.plain.varTypes Tryz.pinned.checked.prog++Tryz.f3.resultTypes.toList).any (fun t=>Tryz.pinned.checked.prog.wideKeysFrom t)))=true/\(Rows.rewriteSidesSpec.vars.all (fun n=>Tryz.pinned.checked.prog.varReadable n))=true/\(Tryz.f3.resultTypes.all (fun t=>Tryz.pinned.checked.prog.readableRec t&&decide (t<Tryz.pinned.checked.prog.types.size)))=true/\((Rows.rewriteSidesRow.ifacesOut==Tryz.f3.resultTypes.toList.any (fun t=>Tryz.pinned.checked.prog.ifacesRec t)))=true/\((Rows.rewriteSidesRow.loopsOut==Tryz.f3.resultTypes.toList.any (fun t=>Tryz.pinned.checked.prog.loopsFrom t)))=true:=by
 have h:((Rows.rewriteSidesRow.wf (OpenSpec.ofChange Rows.rewriteSidesSpec))&&((Tryz.f3.params.all (fun t=>Tryz.pinned.checked.prog.readableRec t))&&((namedTie Tryz.pinned.checked.prog Rows.rewriteSidesRow.named Rows.rewriteSidesSpec.vars)&&(((Rows.rewriteSidesRow.stops==[]))&&(((Rows.rewriteSidesRow.knobs==[]))&&(((Rows.rewriteSidesRow.maps==(Tryz.f3.params.toList++Rows.rewriteSidesSpec.plain.varTypes Tryz.pinned.checked.prog).any (fun t=>Tryz.pinned.checked.prog.mapsRec t)))&&(((Rows.rewriteSidesRow.ifaces==(Tryz.f3.params.toList++Rows.rewriteSidesSpec.plain.varTypes Tryz.pinned.checked.prog).any (fun t=>Tryz.pinned.checked.prog.ifacesRec t)))&&(((Rows.rewriteSidesRow.mapsOut==Tryz.pinned.checked.prog.mapsAmong Tryz.f3.resultTypes.toList))&&(((Rows.rewriteSidesRow.loops==(Tryz.f3.params.toList++Rows.rewriteSidesSpec.plain.varTypes Tryz.pinned.checked.prog).any (fun t=>Tryz.pinned.checked.prog.loopsFrom t)))&&(((Rows.rewriteSidesRow.wideKeys==(Tryz.f3.params.toList++Rows.rewriteSidesSpec.plain.varTypes Tryz.pinned.checked.prog++Tryz.f3.resultTypes.toList).any (fun t=>Tryz.pinned.checked.prog.wideKeysFrom t)))&&((Rows.rewriteSidesSpec.vars.all (fun n=>Tryz.pinned.checked.prog.varReadable n))&&((Tryz.f3.resultTypes.all (fun t=>Tryz.pinned.checked.prog.readableRec t&&decide (t<Tryz.pinned.checked.prog.types.size)))&&(((Rows.rewriteSidesRow.ifacesOut==Tryz.f3.resultTypes.toList.any (fun t=>Tryz.pinned.checked.prog.ifacesRec t)))&&(((Rows.rewriteSidesRow.loopsOut==Tryz.f3.resultTypes.toList.any (fun t=>Tryz.pinned.checked.prog.loopsFrom t)))))))))))))))))=true:=by kernel_rfl
 simpa only [Bool.and_eq_true] using h
def kL:((Rows.rewriteSidesRow.inPlace==Tryz.pinned.checked.prog.inPlace 3))=true/\((Rows.rewriteSidesRow.unfollowed==Tryz.pinned.checked.prog.unfollowed 3))=true/\((Rows.rewriteSidesRow.recurses==Tryz.pinned.checked.prog.recurses 3))=true/\((Rows.rewriteSidesRow.named==Tryz.pinned.checked.prog.varsNamed 3))=true:=by
 have h:(((Rows.rewriteSidesRow.inPlace==Tryz.pinned.checked.prog.inPlace 3))&&(((Rows.rewriteSidesRow.unfollowed==Tryz.pinned.checked.prog.unfollowed 3))&&(((Rows.rewriteSidesRow.recurses==Tryz.pinned.checked.prog.recurses 3))&&(((Rows.rewriteSidesRow.named==Tryz.pinned.checked.prog.varsNamed 3))))))=true:=by kernel_rfl
 simpa only [Bool.and_eq_true] using h
def fT:((Rows.rewriteSidesRow.plainKeys==Tryz.pinned.checked.prog.plainKeys))=true/\(Rows.rewriteSidesRow.shortTexts.isNone)=true/\((Rows.rewriteSidesRow.lifted==Tryz.pinned.checked.prog.liftsFinal))=true/\((Tryz.pinned.checked.prog.make==some Rows.rewriteSidesRow.make))=true/\((Rows.rewriteSidesRow.pinned==Rows.rewriteSidesRow.pinnedBy))=true/\((Rows.rewriteSidesRow.veiled==(Tryz.f3.params.toList++Rows.rewriteSidesSpec.plain.varTypes Tryz.pinned.checked.prog++Tryz.f3.resultTypes.toList).any (fun t=>Tryz.pinned.checked.prog.veiledRec t)))=true/\(Rows.rewriteSidesRow.veiledFits Tryz.pinned.checked.prog Tryz.f3.params.toList (Tryz.f3.params.toList++Rows.rewriteSidesSpec.plain.varTypes Tryz.pinned.checked.prog++Tryz.f3.resultTypes.toList))=true:=by
 have h:(((Rows.rewriteSidesRow.plainKeys==Tryz.pinned.checked.prog.plainKeys))&&((Rows.rewriteSidesRow.shortTexts.isNone)&&(((Rows.rewriteSidesRow.lifted==Tryz.pinned.checked.prog.liftsFinal))&&(((Tryz.pinned.checked.prog.make==some Rows.rewriteSidesRow.make))&&(((Rows.rewriteSidesRow.pinned==Rows.rewriteSidesRow.pinnedBy))&&(((Rows.rewriteSidesRow.veiled==(Tryz.f3.params.toList++Rows.rewriteSidesSpec.plain.varTypes Tryz.pinned.checked.prog++Tryz.f3.resultTypes.toList).any (fun t=>Tryz.pinned.checked.prog.veiledRec t)))&&((Rows.rewriteSidesRow.veiledFits Tryz.pinned.checked.prog Tryz.f3.params.toList (Tryz.f3.params.toList++Rows.rewriteSidesSpec.plain.varTypes Tryz.pinned.checked.prog++Tryz.f3.resultTypes.toList)))))))))=true:=by kernel_rfl
 simpa only [Bool.and_eq_true] using h
def qk:joinedFacts Tryz.pinned.checked.prog 3 Tryz.f3 Rows.rewriteSidesSpec Rows.rewriteSidesRow=true:=by
 unfold joinedFacts
 exact dl (dl (dl (dl (dl (dl (dl (dl (dl (dl (dl (dl (dl (dl (dl (dl (dl (dl (dl (dl (dl (dl (dl (dl (dl (dl (dl (dl (dl (dl (dl (cX.1) (pZ.1)) (pZ.2.1)) (cX.2.1)) (cX.2.2.1)) (cX.2.2.2.1)) (pZ.2.2.1)) (cX.2.2.2.2.1)) (pZ.2.2.2.1)) (kL.1)) (kL.2.1)) (kL.2.2.1)) (kL.2.2.2)) (cX.2.2.2.2.2.1)) (cX.2.2.2.2.2.2.1)) (cX.2.2.2.2.2.2.2.1)) (cX.2.2.2.2.2.2.2.2.1)) (cX.2.2.2.2.2.2.2.2.2.1)) (cX.2.2.2.2.2.2.2.2.2.2.1)) (cX.2.2.2.2.2.2.2.2.2.2.2.1)) (cX.2.2.2.2.2.2.2.2.2.2.2.2.1)) (cX.2.2.2.2.2.2.2.2.2.2.2.2.2)) (fT.1)) (fT.2.1)) (pZ.2.2.2.2.1)) (pZ.2.2.2.2.2)) (fT.2.2.1)) (fT.2.2.2.1)) (by kernel_rfl)) (fT.2.2.2.2.1)) (fT.2.2.2.2.2.1)) (fT.2.2.2.2.2.2)
theorem rewriteSides_said:Rows.RewriteSidesSaid:=
 OpenClaim.holds_of_wide 3 Tryz.f3 rfl rfl rfl rfl rfl rfl rfl ⟨rfl,rfl,rfl,rfl,rfl⟩ rfl rfl rfl rfl rfl qI Tryz.func3 qk
  (of_decide_eq_true (by kernel_rfl)) (by unfold Func.isWrapper;first|(rw [if_pos (by decide+kernel)];kernel_rfl)|(rw [if_neg (by decide+kernel)];exact⟨rfl,rfl⟩))
  (fun os started h2 enc _=>qj os started h2 enc)
#print axioms rewriteSides_said
end Go.Proofs.YtbmmihfagmchaaaGreat

