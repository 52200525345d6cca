/- cd of this claim: PropScans. -/
import Derived.Test.YtmogpgcfognefaaGreatDoorNcA0
import Derived.Test.YtmogpgcfognefaaGreatDoorNcP20
import Derived.Test.YtmogpgcfognefaaGreatDoorNcYX
import Derived.Test.YtmogpgcfognefaaGreatDoorTie
import Derived.Test.YtmogpgcfognefaaGreatDoorCards
import Derived.SevenTiedAt
set_option linter.all false
namespace Go.Proofs.YtmogpgcfognefaaGreatDoor
open Go Go.ChangeShapes Go.WideShapes Go.ChangeAt Go.RowKit

set_option maxRecDepth 100000 in
theorem vz(os:Os)(started:os.Started)(H:Type)(enc:TypeId×Value→H):
  ReturnsInHanded {} Tryz.checked os 6 .any (fun w args=>(Rows.propScansSpec.pre enc Tryz.prog Tryz.f6 [] false w args∧laidMetH Tryz.prog uB w)∧sizedMet enc Tryz.prog Tryz.f6 (OpenSpec.ofChange Rows.propScansSpec) false w args)
   (Rows.propScansSpec.post enc Tryz.prog Tryz.f6 false true false false):=by
 refine returnsInHanded_of_change_and (C:=Tryz.checked) (X:=fun w _=>laidMetH Tryz.prog uB w) (fun _ _ _ hh h=>h.of_heap hh) M1 started (by kernel_rfl) Tryz.func6
  (ChangeSpec.witness_shaped (enc:=enc) (C:=Tryz.checked) (os:=os) (X:=fun w _=>laidMetH Tryz.prog uB w) false (World.laidAll Tryz.prog os uB) #[.agg #[.slice none 0 0],.int .i64 0,.slice none 0 0] 8 (World.laidAll_os _ _ _) (World.shaped_of_ZipB (by kernel_rfl) (by kernel_rfl)) (by kernel_rfl) (by kernel_rfl) (by kernel_rfl) (I3 os _)) ?_
 intro W base args ds gs before hval0 hW hcnd _ hL _
 have hval: ∀(j:Nat) t v,Tryz.f6.params[j]? =some t→args[j]? =some v→Value.okWide Tryz.prog W .any base t v:=hval0
 have hW' :=hW
 obtain⟨p,q,hA0,hV,hbf,hfz,hnd⟩:=hW
 have hA:DataW.TrodAll enc Tryz.prog W 0 (fun _=>true) true Tryz.f6.params.toList args.toList ds p:=hA0
 have hgs:gs=[]:=by
  cases gs with
  |nil=>rfl
  |cons g gs=>exact hV.elim
 rw [Tryz.params6]at hA hval
 obtain⟨v0,v1,v2,d0,d1,d2,p0,p1,p2,hargs,hds,hps,h0,h1,h2⟩:=trodAll_three hA
 obtain⟨a0,ha0,ho0⟩:=LS (OF enc W) CI rfl h0 (BS Tryz.underlying24 (hval 0 24 v0 rfl (by rw [hargs];rfl)))
 obtain⟨a1,ha1,ho1⟩:=F7 (JQ enc W) qt rfl h1 (Hu Tryz.underlying3 (hval 1 3 v1 rfl (by rw [hargs];rfl)))
 obtain⟨a2,ha2,ho2⟩:=F7 (Oz enc W) (xW (xW GV)) rfl h2 (Dk Tryz.underlying74 (hval 2 74 v2 rfl (by rw [hargs];rfl)))
 have hcall:=Pt a0 a1 a2 (wL a0 a1 a2 ho2) W (zJ W) [v0,v1,v2] (MW W (Hh hL) (H9 hL)) ⟨ha0,ha1,ha2,trivial⟩
 have hargs' :args=[v0,v1,v2].toArray:=hargs
 rw [←hargs']at hcall
 refine hcall.mono fun e W' ⟨v,S',he,hext,_,hv⟩=>⟨v,he,?_⟩
 rw [fg.1 hv]
 exact Iy (tb:=4) Kb (by rw [Tryz.params6];decide+kernel) rfl rfl Tryz.underlying4 hW' (by rw [hgs,hds];rfl) (BT hext)
theorem q4:Tryz.pinned.checked.prog.funcNamed Rows.propScansRow.func=some 6:=by kernel_rfl
theorem yf:false=Rows.propScansRow.goesBy Tryz.pinned.checked.prog:=by kernel_rfl
theorem eH:(Rows.propScansRow.wf (OpenSpec.ofChange Rows.propScansSpec))=true∧(Tryz.f6.params.all (fun t=>Tryz.pinned.checked.prog.readableRec t))=true∧(namedTie Tryz.pinned.checked.prog Rows.propScansRow.named Rows.propScansSpec.vars)=true∧((Rows.propScansRow.stops==[]))=true∧((Rows.propScansRow.knobs==[]))=true∧((Rows.propScansRow.maps==(Tryz.f6.params.toList++Rows.propScansSpec.plain.varTypes Tryz.pinned.checked.prog).any (fun t=>Tryz.pinned.checked.prog.mapsRec t)))=true∧((Rows.propScansRow.ifaces==(Tryz.f6.params.toList++Rows.propScansSpec.plain.varTypes Tryz.pinned.checked.prog).any (fun t=>Tryz.pinned.checked.prog.ifacesRec t)))=true∧((Rows.propScansRow.mapsOut==Tryz.pinned.checked.prog.mapsAmong Tryz.f6.resultTypes.toList))=true∧((Rows.propScansRow.loops==(Tryz.f6.params.toList++Rows.propScansSpec.plain.varTypes Tryz.pinned.checked.prog).any (fun t=>Tryz.pinned.checked.prog.loopsFrom t)))=true∧((Rows.propScansRow.wideKeys==(Tryz.f6.params.toList++Rows.propScansSpec.plain.varTypes Tryz.pinned.checked.prog++Tryz.f6.resultTypes.toList).any (fun t=>Tryz.pinned.checked.prog.wideKeysFrom t)))=true∧(Rows.propScansSpec.vars.all (fun n=>Tryz.pinned.checked.prog.varReadable n))=true∧(Tryz.f6.resultTypes.all (fun t=>Tryz.pinned.checked.prog.readableRec t&&decide (t<Tryz.pinned.checked.prog.types.size)))=true∧((Rows.propScansRow.ifacesOut==Tryz.f6.resultTypes.toList.any (fun t=>Tryz.pinned.checked.prog.ifacesRec t)))=true∧((Rows.propScansRow.loopsOut==Tryz.f6.resultTypes.toList.any (fun t=>Tryz.pinned.checked.prog.loopsFrom t)))=true:=by
 have h:((Rows.propScansRow.wf (OpenSpec.ofChange Rows.propScansSpec))&&((Tryz.f6.params.all (fun t=>Tryz.pinned.checked.prog.readableRec t))&&((namedTie Tryz.pinned.checked.prog Rows.propScansRow.named Rows.propScansSpec.vars)&&(((Rows.propScansRow.stops==[]))&&(((Rows.propScansRow.knobs==[]))&&(((Rows.propScansRow.maps==(Tryz.f6.params.toList++Rows.propScansSpec.plain.varTypes Tryz.pinned.checked.prog).any (fun t=>Tryz.pinned.checked.prog.mapsRec t)))&&(((Rows.propScansRow.ifaces==(Tryz.f6.params.toList++Rows.propScansSpec.plain.varTypes Tryz.pinned.checked.prog).any (fun t=>Tryz.pinned.checked.prog.ifacesRec t)))&&(((Rows.propScansRow.mapsOut==Tryz.pinned.checked.prog.mapsAmong Tryz.f6.resultTypes.toList))&&(((Rows.propScansRow.loops==(Tryz.f6.params.toList++Rows.propScansSpec.plain.varTypes Tryz.pinned.checked.prog).any (fun t=>Tryz.pinned.checked.prog.loopsFrom t)))&&(((Rows.propScansRow.wideKeys==(Tryz.f6.params.toList++Rows.propScansSpec.plain.varTypes Tryz.pinned.checked.prog++Tryz.f6.resultTypes.toList).any (fun t=>Tryz.pinned.checked.prog.wideKeysFrom t)))&&((Rows.propScansSpec.vars.all (fun n=>Tryz.pinned.checked.prog.varReadable n))&&((Tryz.f6.resultTypes.all (fun t=>Tryz.pinned.checked.prog.readableRec t&&decide (t<Tryz.pinned.checked.prog.types.size)))&&(((Rows.propScansRow.ifacesOut==Tryz.f6.resultTypes.toList.any (fun t=>Tryz.pinned.checked.prog.ifacesRec t)))&&(((Rows.propScansRow.loopsOut==Tryz.f6.resultTypes.toList.any (fun t=>Tryz.pinned.checked.prog.loopsFrom t)))))))))))))))))=true:=by kernel_rfl
 simpa only [Bool.and_eq_true] using h
theorem o6:((Rows.propScansRow.inPlace==Tryz.pinned.checked.prog.inPlace 6))=true∧((Rows.propScansRow.unfollowed==Tryz.pinned.checked.prog.unfollowed 6))=true∧((Rows.propScansRow.recurses==Tryz.pinned.checked.prog.recurses 6))=true∧((Rows.propScansRow.named==Tryz.pinned.checked.prog.varsNamed 6))=true:=by
 have h:(((Rows.propScansRow.inPlace==Tryz.pinned.checked.prog.inPlace 6))&&(((Rows.propScansRow.unfollowed==Tryz.pinned.checked.prog.unfollowed 6))&&(((Rows.propScansRow.recurses==Tryz.pinned.checked.prog.recurses 6))&&(((Rows.propScansRow.named==Tryz.pinned.checked.prog.varsNamed 6))))))=true:=by kernel_rfl
 simpa only [Bool.and_eq_true] using h
theorem kp:((Rows.propScansRow.plainKeys==Tryz.pinned.checked.prog.plainKeys))=true∧(Rows.propScansRow.shortTexts.isNone)=true∧((Rows.propScansRow.lifted==Tryz.pinned.checked.prog.liftsFinal))=true∧((Tryz.pinned.checked.prog.make==some Rows.propScansRow.make))=true∧((Rows.propScansRow.pinned==Rows.propScansRow.pinnedBy))=true∧((Rows.propScansRow.veiled==(Tryz.f6.params.toList++Rows.propScansSpec.plain.varTypes Tryz.pinned.checked.prog++Tryz.f6.resultTypes.toList).any (fun t=>Tryz.pinned.checked.prog.veiledRec t)))=true∧(Rows.propScansRow.veiledFits Tryz.pinned.checked.prog Tryz.f6.params.toList (Tryz.f6.params.toList++Rows.propScansSpec.plain.varTypes Tryz.pinned.checked.prog++Tryz.f6.resultTypes.toList))=true:=by
 have h:(((Rows.propScansRow.plainKeys==Tryz.pinned.checked.prog.plainKeys))&&((Rows.propScansRow.shortTexts.isNone)&&(((Rows.propScansRow.lifted==Tryz.pinned.checked.prog.liftsFinal))&&(((Tryz.pinned.checked.prog.make==some Rows.propScansRow.make))&&(((Rows.propScansRow.pinned==Rows.propScansRow.pinnedBy))&&(((Rows.propScansRow.veiled==(Tryz.f6.params.toList++Rows.propScansSpec.plain.varTypes Tryz.pinned.checked.prog++Tryz.f6.resultTypes.toList).any (fun t=>Tryz.pinned.checked.prog.veiledRec t)))&&((Rows.propScansRow.veiledFits Tryz.pinned.checked.prog Tryz.f6.params.toList (Tryz.f6.params.toList++Rows.propScansSpec.plain.varTypes Tryz.pinned.checked.prog++Tryz.f6.resultTypes.toList)))))))))=true:=by kernel_rfl
 simpa only [Bool.and_eq_true] using h
theorem vA:joinedFacts Tryz.pinned.checked.prog 6 Tryz.f6 Rows.propScansSpec Rows.propScansRow=true:=by
 unfold joinedFacts
 exact dJ (dJ (dJ (dJ (dJ (dJ (dJ (dJ (dJ (dJ (dJ (dJ (dJ (dJ (dJ (dJ (dJ (dJ (dJ (dJ (dJ (dJ (dJ (dJ (dJ (dJ (dJ (dJ (dJ (dJ (dJ (eH.1) (sw.1)) (sw.2.1)) (eH.2.1)) (eH.2.2.1)) (eH.2.2.2.1)) (sw.2.2.1)) (eH.2.2.2.2.1)) (sw.2.2.2.1)) (o6.1)) (o6.2.1)) (o6.2.2.1)) (o6.2.2.2)) (eH.2.2.2.2.2.1)) (eH.2.2.2.2.2.2.1)) (eH.2.2.2.2.2.2.2.1)) (eH.2.2.2.2.2.2.2.2.1)) (eH.2.2.2.2.2.2.2.2.2.1)) (eH.2.2.2.2.2.2.2.2.2.2.1)) (eH.2.2.2.2.2.2.2.2.2.2.2.1)) (eH.2.2.2.2.2.2.2.2.2.2.2.2.1)) (eH.2.2.2.2.2.2.2.2.2.2.2.2.2)) (kp.1)) (kp.2.1)) (sw.2.2.2.2.1)) (sw.2.2.2.2.2)) (kp.2.2.1)) (kp.2.2.2.1)) (by kernel_rfl)) (kp.2.2.2.2.1)) (kp.2.2.2.2.2.1)) (kp.2.2.2.2.2.2)
theorem ye:Rows.PropScansSaid:=
 OpenClaim.holds_of_wide 6 Tryz.f6 rfl rfl rfl rfl rfl rfl rfl ⟨rfl,rfl,rfl,rfl,rfl⟩ rfl rfl rfl rfl rfl q4 Tryz.func6 vA
  (of_decide_eq_true (by kernel_rfl)) (by unfold Func.isWrapper;first|(rw [if_pos (by decide+kernel)];kernel_rfl)|(rw [if_neg (by decide+kernel)];exact⟨rfl,rfl⟩))
  (fun os started H enc _=>vz os started H enc)
theorem propScans_card:Rows.PropScansCardSaid:=
 Claim7.holds_tied_plain_at .later [] [.data,.widerDeep,.data,.pinned,.pinned] true (true, "bb13d3eb1f937d7c1d6c9112fc0e8d4933c1a8b2b26744fdabef76fe234983bc") false
  ye (fun _ h=>by cases h) (by kernel_rfl) (fun _ h=>by cases h) propScans_row_tie rfl ⟨rfl,rfl⟩ JZ rfl
  (fun f fn hf hfn=>by
   obtain rfl:f=6:=Option.some.inj ((show Tryz.prog.funcNamed "bowsprit/bowspritlaw18.PropScans" =some 6 from q4).symm.trans hf)|>.symm
   obtain rfl:fn=Tryz.f6:=(Option.some.inj (Tryz.func6.symm.trans hfn)).symm
   exact⟨Ii,fun j t ht=>by
    rw [Tryz.params6]at ht
    have hm:t∈[24,3,74]:=by simpa using Array.mem_of_getElem? ht
    have hall:([24,3,74].all fun u=> !Tryz.prog.wantsStandIn u)=true:=by kernel_rfl
    exact(show Tryz.prog.wantsStandIn t=false by simpa using List.all_eq_true.1 hall t hm)⟩)
  yf
#print axioms propScans_card
end Go.Proofs.YtmogpgcfognefaaGreatDoor

