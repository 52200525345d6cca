/- eJ of this claim: DenoteRows. -/
import Derived.Test.YtpgjgkdpeagjbaaGreatDoorJaA0
import Derived.Test.YtpgjgkdpeagjbaaGreatDoorJaP22
import Derived.Test.YtpgjgkdpeagjbaaGreatDoorJaJX
import Derived.Test.YtpgjgkdpeagjbaaGreatDoorTie
import Derived.Test.YtpgjgkdpeagjbaaGreatDoorCards
import Derived.SevenTiedAt
set_option linter.all false
namespace Go.Proofs.YtpgjgkdpeagjbaaGreatDoor
open Go Go.ChangeShapes Go.WideShapes Go.ChangeAt Go.RowKit

set_option maxRecDepth 100000 in
def Eg(os:Os)(started:os.Started)(hg:Type)(enc:TypeId×Value->hg):
  ReturnsInHanded {} Tryz.checked os 3 .any (fun w args=>(Rows.denoteRowsSpec.pre enc Tryz.prog Tryz.f3 [] false w args/\laidMetH Tryz.prog Ov w)/\sizedMet enc Tryz.prog Tryz.f3 (OpenSpec.ofChange Rows.denoteRowsSpec) false w args)
   (Rows.denoteRowsSpec.post enc Tryz.prog Tryz.f3 false true false false):=by
 refine returnsInHanded_of_change_and (C:=Tryz.checked) (X:=fun w _=>laidMetH Tryz.prog Ov w) (fun _ _ _ hh h=>h.of_heap hh) abt started (by kernel_rfl) Tryz.func3
  (ChangeSpec.witness_shaped (enc:=enc) (C:=Tryz.checked) (os:=os) (X:=fun w _=>laidMetH Tryz.prog Ov w) false (World.doorLaid Tryz.prog 400 os) #[.agg #[.slice none 0 0],.agg #[.slice none 0 0]] 8 rfl (World.shaped_of_RefB (by kernel_rfl) (by kernel_rfl)) (by kernel_rfl) (by kernel_rfl) (by kernel_rfl) (V6 os _)) ?_
 intro W base args ds gs before hval0 hW hcnd _ hL _
 have hval: ∀(j:Nat) t v,Tryz.f3.params[j]? =some t->args[j]? =some v->Value.okWide Tryz.prog W .any base t v:=hval0
 have hW' :=hW
 obtain⟨p,q,hA0,hV,hbf,hfz,hnd⟩:=hW
 have hA:DataW.TrodAll enc Tryz.prog W 0 (fun _=>true) true Tryz.f3.params.toList args.toList ds p:=hA0
 have hgs:gs=[]:=by
  cases gs with
  |nil=>rfl
  |cons g gs=>exact hV.elim
 rw [Tryz.params3]at hA hval
 obtain⟨v0,v1,d0,d1,p0,p1,hargs,hds,hps,h0,I⟩:=trodAll_two hA
 obtain⟨a0,ha0,ho0⟩:=SZ (adh enc W) Tx rfl h0 (Eo Tryz.underlying24 (hval 0 24 v0 rfl (by rw [hargs];rfl)))
 obtain⟨a1,ha1,ho1⟩:=SZ (adf enc W) U4 rfl I (Eo Tryz.underlying27 (hval 1 27 v1 rfl (by rw [hargs];rfl)))
 have hcall:=adP a0 a1 (Fc a0 ho0 a1 ho1) W (Ot W) [v0,v1] (abo W (TV hL) (fun _ _=>trivial)) ⟨ha0,ha1,trivial⟩
 have hargs' :args=[v0,v1].toArray:=hargs
 rw [<-hargs']at hcall
 refine hcall.mono fun e W' ⟨v,S',he,hext,_,hv⟩=>⟨v,he,?_⟩
 rw [ko.1 hv]
 exact Vs (tb:=4) XP (by rw [Tryz.params3];decide+kernel) rfl rfl Tryz.underlying4 hW' (by rw [hgs,hds];rfl) (MO hext)
def yx:Tryz.pinned.checked.prog.funcNamed Rows.denoteRowsRow.func=some 3:=by kernel_rfl
def Gl:false=Rows.denoteRowsRow.goesBy Tryz.pinned.checked.prog:=by kernel_rfl
def im:(Rows.denoteRowsRow.wf (OpenSpec.ofChange Rows.denoteRowsSpec))=true/\(Tryz.f3.params.all (fun t=>Tryz.pinned.checked.prog.readableRec t))=true/\(namedTie Tryz.pinned.checked.prog Rows.denoteRowsRow.named Rows.denoteRowsSpec.vars)=true/\((Rows.denoteRowsRow.stops==[]))=true/\((Rows.denoteRowsRow.knobs==[]))=true/\((Rows.denoteRowsRow.maps==(Tryz.f3.params.toList++Rows.denoteRowsSpec.plain.varTypes Tryz.pinned.checked.prog).any (fun t=>Tryz.pinned.checked.prog.mapsRec t)))=true/\((Rows.denoteRowsRow.ifaces==(Tryz.f3.params.toList++Rows.denoteRowsSpec.plain.varTypes Tryz.pinned.checked.prog).any (fun t=>Tryz.pinned.checked.prog.ifacesRec t)))=true/\((Rows.denoteRowsRow.mapsOut==Tryz.pinned.checked.prog.mapsAmong Tryz.f3.resultTypes.toList))=true/\((Rows.denoteRowsRow.loops==(Tryz.f3.params.toList++Rows.denoteRowsSpec.plain.varTypes Tryz.pinned.checked.prog).any (fun t=>Tryz.pinned.checked.prog.loopsFrom t)))=true/\((Rows.denoteRowsRow.wideKeys==(Tryz.f3.params.toList++Rows.denoteRowsSpec.plain.varTypes Tryz.pinned.checked.prog++Tryz.f3.resultTypes.toList).any (fun t=>Tryz.pinned.checked.prog.wideKeysFrom t)))=true/\(Rows.denoteRowsSpec.vars.all (fun n=>Tryz.pinned.checked.prog.varReadable n))=true/\(Tryz.f3.resultTypes.all (fun t=>Tryz.pinned.checked.prog.readableRec t&&decide (t<Tryz.pinned.checked.prog.types.size)))=true/\((Rows.denoteRowsRow.ifacesOut==Tryz.f3.resultTypes.toList.any (fun t=>Tryz.pinned.checked.prog.ifacesRec t)))=true/\((Rows.denoteRowsRow.loopsOut==Tryz.f3.resultTypes.toList.any (fun t=>Tryz.pinned.checked.prog.loopsFrom t)))=true:=by
 have h:((Rows.denoteRowsRow.wf (OpenSpec.ofChange Rows.denoteRowsSpec))&&((Tryz.f3.params.all (fun t=>Tryz.pinned.checked.prog.readableRec t))&&((namedTie Tryz.pinned.checked.prog Rows.denoteRowsRow.named Rows.denoteRowsSpec.vars)&&(((Rows.denoteRowsRow.stops==[]))&&(((Rows.denoteRowsRow.knobs==[]))&&(((Rows.denoteRowsRow.maps==(Tryz.f3.params.toList++Rows.denoteRowsSpec.plain.varTypes Tryz.pinned.checked.prog).any (fun t=>Tryz.pinned.checked.prog.mapsRec t)))&&(((Rows.denoteRowsRow.ifaces==(Tryz.f3.params.toList++Rows.denoteRowsSpec.plain.varTypes Tryz.pinned.checked.prog).any (fun t=>Tryz.pinned.checked.prog.ifacesRec t)))&&(((Rows.denoteRowsRow.mapsOut==Tryz.pinned.checked.prog.mapsAmong Tryz.f3.resultTypes.toList))&&(((Rows.denoteRowsRow.loops==(Tryz.f3.params.toList++Rows.denoteRowsSpec.plain.varTypes Tryz.pinned.checked.prog).any (fun t=>Tryz.pinned.checked.prog.loopsFrom t)))&&(((Rows.denoteRowsRow.wideKeys==(Tryz.f3.params.toList++Rows.denoteRowsSpec.plain.varTypes Tryz.pinned.checked.prog++Tryz.f3.resultTypes.toList).any (fun t=>Tryz.pinned.checked.prog.wideKeysFrom t)))&&((Rows.denoteRowsSpec.vars.all (fun n=>Tryz.pinned.checked.prog.varReadable n))&&((Tryz.f3.resultTypes.all (fun t=>Tryz.pinned.checked.prog.readableRec t&&decide (t<Tryz.pinned.checked.prog.types.size)))&&(((Rows.denoteRowsRow.ifacesOut==Tryz.f3.resultTypes.toList.any (fun t=>Tryz.pinned.checked.prog.ifacesRec t)))&&(((Rows.denoteRowsRow.loopsOut==Tryz.f3.resultTypes.toList.any (fun t=>Tryz.pinned.checked.prog.loopsFrom t)))))))))))))))))=true:=by kernel_rfl
 simpa only [Bool.and_eq_true] using h
def vG:((Rows.denoteRowsRow.inPlace==Tryz.pinned.checked.prog.inPlace 3))=true/\((Rows.denoteRowsRow.unfollowed==Tryz.pinned.checked.prog.unfollowed 3))=true/\((Rows.denoteRowsRow.recurses==Tryz.pinned.checked.prog.recurses 3))=true/\((Rows.denoteRowsRow.named==Tryz.pinned.checked.prog.varsNamed 3))=true:=by
 have h:(((Rows.denoteRowsRow.inPlace==Tryz.pinned.checked.prog.inPlace 3))&&(((Rows.denoteRowsRow.unfollowed==Tryz.pinned.checked.prog.unfollowed 3))&&(((Rows.denoteRowsRow.recurses==Tryz.pinned.checked.prog.recurses 3))&&(((Rows.denoteRowsRow.named==Tryz.pinned.checked.prog.varsNamed 3))))))=true:=by kernel_rfl
 simpa only [Bool.and_eq_true] using h
def oW:((Rows.denoteRowsRow.plainKeys==Tryz.pinned.checked.prog.plainKeys))=true/\(Rows.denoteRowsRow.shortTexts.isNone)=true/\((Rows.denoteRowsRow.lifted==Tryz.pinned.checked.prog.liftsFinal))=true/\((Tryz.pinned.checked.prog.make==some Rows.denoteRowsRow.make))=true/\((Rows.denoteRowsRow.pinned==Rows.denoteRowsRow.pinnedBy))=true/\((Rows.denoteRowsRow.veiled==(Tryz.f3.params.toList++Rows.denoteRowsSpec.plain.varTypes Tryz.pinned.checked.prog++Tryz.f3.resultTypes.toList).any (fun t=>Tryz.pinned.checked.prog.veiledRec t)))=true/\(Rows.denoteRowsRow.veiledFits Tryz.pinned.checked.prog Tryz.f3.params.toList (Tryz.f3.params.toList++Rows.denoteRowsSpec.plain.varTypes Tryz.pinned.checked.prog++Tryz.f3.resultTypes.toList))=true:=by
 have h:(((Rows.denoteRowsRow.plainKeys==Tryz.pinned.checked.prog.plainKeys))&&((Rows.denoteRowsRow.shortTexts.isNone)&&(((Rows.denoteRowsRow.lifted==Tryz.pinned.checked.prog.liftsFinal))&&(((Tryz.pinned.checked.prog.make==some Rows.denoteRowsRow.make))&&(((Rows.denoteRowsRow.pinned==Rows.denoteRowsRow.pinnedBy))&&(((Rows.denoteRowsRow.veiled==(Tryz.f3.params.toList++Rows.denoteRowsSpec.plain.varTypes Tryz.pinned.checked.prog++Tryz.f3.resultTypes.toList).any (fun t=>Tryz.pinned.checked.prog.veiledRec t)))&&((Rows.denoteRowsRow.veiledFits Tryz.pinned.checked.prog Tryz.f3.params.toList (Tryz.f3.params.toList++Rows.denoteRowsSpec.plain.varTypes Tryz.pinned.checked.prog++Tryz.f3.resultTypes.toList)))))))))=true:=by kernel_rfl
 simpa only [Bool.and_eq_true] using h
def Eh:joinedFacts Tryz.pinned.checked.prog 3 Tryz.f3 Rows.denoteRowsSpec Rows.denoteRowsRow=true:=by
 unfold joinedFacts
 exact gK (gK (gK (gK (gK (gK (gK (gK (gK (gK (gK (gK (gK (gK (gK (gK (gK (gK (gK (gK (gK (gK (gK (gK (gK (gK (gK (gK (gK (gK (gK (im.1) (Bj.1)) (Bj.2.1)) (im.2.1)) (im.2.2.1)) (im.2.2.2.1)) (Bj.2.2.1)) (im.2.2.2.2.1)) (Bj.2.2.2.1)) (vG.1)) (vG.2.1)) (vG.2.2.1)) (vG.2.2.2)) (im.2.2.2.2.2.1)) (im.2.2.2.2.2.2.1)) (im.2.2.2.2.2.2.2.1)) (im.2.2.2.2.2.2.2.2.1)) (im.2.2.2.2.2.2.2.2.2.1)) (im.2.2.2.2.2.2.2.2.2.2.1)) (im.2.2.2.2.2.2.2.2.2.2.2.1)) (im.2.2.2.2.2.2.2.2.2.2.2.2.1)) (im.2.2.2.2.2.2.2.2.2.2.2.2.2)) (oW.1)) (oW.2.1)) (Bj.2.2.2.2.1)) (Bj.2.2.2.2.2)) (oW.2.2.1)) (oW.2.2.2.1)) (by kernel_rfl)) (oW.2.2.2.2.1)) (oW.2.2.2.2.2.1)) (oW.2.2.2.2.2.2)
def Gk:Rows.DenoteRowsSaid:=
 OpenClaim.holds_of_wide 3 Tryz.f3 rfl rfl rfl rfl rfl rfl rfl ⟨rfl,rfl,rfl,rfl,rfl⟩ rfl rfl rfl rfl rfl yx Tryz.func3 Eh
  (of_decide_eq_true (by kernel_rfl)) (by unfold Func.isWrapper;first|(rw [if_pos (by decide+kernel)];kernel_rfl)|(rw [if_neg (by decide+kernel)];exact⟨rfl,rfl⟩))
  (fun os started hg enc _=>Eg os started hg enc)
theorem denoteRows_card:Rows.DenoteRowsCardSaid:=
 Claim7.holds_tied_plain_at .later [] [.data] true (true, "1fb035841268c28f8649a0e131a854546444998a94027221d94d03281b9c9cd6") false
  Gk (fun _ h=>by cases h) (by kernel_rfl) (fun _ h=>by cases h) denoteRows_row_tie rfl ⟨rfl,rfl⟩ Xz rfl
  (fun f fn hf hfn=>by
   obtain rfl:f=3:=Option.some.inj ((show Tryz.prog.funcNamed "bowsprit/bowspritlaw15.DenoteRows" =some 3 from yx).symm.trans hf)|>.symm
   obtain rfl:fn=Tryz.f3:=(Option.some.inj (Tryz.func3.symm.trans hfn)).symm
   exact⟨U9,fun j t Y=>by
    rw [Tryz.params3]at Y
    have hm:t∈[24,27]:=by simpa using Array.mem_of_getElem? Y
    have hall:([24,27].all fun u=> !Tryz.prog.wantsStandIn u)=true:=by kernel_rfl
    exact(show Tryz.prog.wantsStandIn t=false by simpa using List.all_eq_true.1 hall t hm)⟩)
  Gl
#print axioms denoteRows_card
end Go.Proofs.YtpgjgkdpeagjbaaGreatDoor

