/- de of this claim: BindCalled. -/
import Derived.Test.YtigldkegamffhaaGreatDoorBfA0
import Derived.Test.YtigldkegamffhaaGreatDoorBfP12
import Derived.Test.YtigldkegamffhaaGreatDoorBfB27
import Derived.Test.YtigldkegamffhaaGreatDoorTie
import Derived.Test.YtigldkegamffhaaGreatDoorCards
import Derived.SevenTiedAt
set_option linter.all false
namespace Go.Proofs.YtigldkegamffhaaGreatDoor
open Go Go.ChangeShapes Go.WideShapes Go.ChangeAt Go.RowKit

set_option maxRecDepth 100000 in
def Di(os:Os)(started:os.Started)(hb:Type)(enc:TypeId×Value->hb):
  ReturnsInHanded {} Tryz.checked os 3 .any (fun w args=>(Rows.bindCalledSpec.pre enc Tryz.prog Tryz.f3 [] false w args/\laidMetH Tryz.prog CR w)/\sizedMet enc Tryz.prog Tryz.f3 (OpenSpec.ofChange Rows.bindCalledSpec) false w args)
   (Rows.bindCalledSpec.post enc Tryz.prog Tryz.f3 false true false false):=by
 refine returnsInHanded_of_change_and (C:=Tryz.checked) (X:=fun w _=>laidMetH Tryz.prog CR w) (fun _ _ _ hh h=>h.of_heap hh) YJ started (by kernel_rfl) Tryz.func3
  (ChangeSpec.witness_shaped (enc:=enc) (C:=Tryz.checked) (os:=os) (X:=fun w _=>laidMetH Tryz.prog CR w) false (World.laidAll Tryz.prog os CR) #[.agg #[.slice none 0 0],.agg #[.slice none 0 0,.slice none 0 0,.int .i64 0],.agg #[.int .i64 0,.int .i64 0]] 8 (World.laidAll_os _ _ _) (World.shaped_of_ZipB (by kernel_rfl) (by kernel_rfl)) (by kernel_rfl) (by kernel_rfl) (by kernel_rfl) (Vs os _)) ?_
 intro W base args ds gs before hval0 hW hcnd _ hL _
 have hval: ∀(j:Nat) t v,Tryz.f3.params[j]? =some t->args[j]? =some v->Value.okWide Tryz.prog W .any base t v:=hval0
 have hW' :=hW
 obtain⟨p,q,hA0,hV,hbf,hfz,hnd⟩:=hW
 have hA:DataW.TrodAll enc Tryz.prog W 0 (fun _=>true) true Tryz.f3.params.toList args.toList ds p:=hA0
 have hgs:gs=[]:=by
  cases gs with
  |nil=>rfl
  |cons g gs=>exact hV.elim
 rw [Tryz.params3]at hA hval
 obtain⟨v0,v1,v2,d0,d1,d2,p0,p1,p2,hargs,hds,hps,h0,A,V⟩:=trodAll_three hA
 obtain⟨a0,ha0,ho0⟩:=Lg (aaD enc W) LX rfl h0 (De Tryz.underlying24 (hval 0 24 v0 rfl (by rw [hargs];rfl)))
 obtain⟨a1,ha1,ho1⟩:=Lg (aaA enc W) Sd rfl A (De Tryz.underlying28 (hval 1 28 v1 rfl (by rw [hargs];rfl)))
 obtain⟨a2,ha2,ho2⟩:=Lg (aaz enc W) (Wv jV) rfl V (MU Tryz.underlying29 (hval 2 29 v2 rfl (by rw [hargs];rfl)))
 have hcall:=abk a0 a1 a2 (Ey a0 a1 a2 ho2) W (KC W) [v0,v1,v2] (YF W (SF hL) (TT hL)) ⟨ha0,ha1,ha2,trivial⟩
 have hargs' :args=[v0,v1,v2].toArray:=hargs
 rw [<-hargs']at hcall
 refine hcall.mono fun e W' ⟨v,S',he,hext,_,hv⟩=>⟨v,he,?_⟩
 rw [jy.1 hv]
 exact UG (tb:=4) WE (by rw [Tryz.params3];decide+kernel) rfl rfl Tryz.underlying4 hW' (by rw [hgs,hds];rfl) (Le hext)
def wu:Tryz.pinned.checked.prog.funcNamed Rows.bindCalledRow.func=some 3:=by kernel_rfl
def FM:false=Rows.bindCalledRow.goesBy Tryz.pinned.checked.prog:=by kernel_rfl
def gF:(Rows.bindCalledRow.wf (OpenSpec.ofChange Rows.bindCalledSpec))=true/\(Tryz.f3.params.all (fun t=>Tryz.pinned.checked.prog.readableRec t))=true/\(namedTie Tryz.pinned.checked.prog Rows.bindCalledRow.named Rows.bindCalledSpec.vars)=true/\((Rows.bindCalledRow.stops==[]))=true/\((Rows.bindCalledRow.knobs==[]))=true/\((Rows.bindCalledRow.maps==(Tryz.f3.params.toList++Rows.bindCalledSpec.plain.varTypes Tryz.pinned.checked.prog).any (fun t=>Tryz.pinned.checked.prog.mapsRec t)))=true/\((Rows.bindCalledRow.ifaces==(Tryz.f3.params.toList++Rows.bindCalledSpec.plain.varTypes Tryz.pinned.checked.prog).any (fun t=>Tryz.pinned.checked.prog.ifacesRec t)))=true/\((Rows.bindCalledRow.mapsOut==Tryz.pinned.checked.prog.mapsAmong Tryz.f3.resultTypes.toList))=true/\((Rows.bindCalledRow.loops==(Tryz.f3.params.toList++Rows.bindCalledSpec.plain.varTypes Tryz.pinned.checked.prog).any (fun t=>Tryz.pinned.checked.prog.loopsFrom t)))=true/\((Rows.bindCalledRow.wideKeys==(Tryz.f3.params.toList++Rows.bindCalledSpec.plain.varTypes Tryz.pinned.checked.prog++Tryz.f3.resultTypes.toList).any (fun t=>Tryz.pinned.checked.prog.wideKeysFrom t)))=true/\(Rows.bindCalledSpec.vars.all (fun n=>Tryz.pinned.checked.prog.varReadable n))=true/\(Tryz.f3.resultTypes.all (fun t=>Tryz.pinned.checked.prog.readableRec t&&decide (t<Tryz.pinned.checked.prog.types.size)))=true/\((Rows.bindCalledRow.ifacesOut==Tryz.f3.resultTypes.toList.any (fun t=>Tryz.pinned.checked.prog.ifacesRec t)))=true/\((Rows.bindCalledRow.loopsOut==Tryz.f3.resultTypes.toList.any (fun t=>Tryz.pinned.checked.prog.loopsFrom t)))=true:=by
 have h:((Rows.bindCalledRow.wf (OpenSpec.ofChange Rows.bindCalledSpec))&&((Tryz.f3.params.all (fun t=>Tryz.pinned.checked.prog.readableRec t))&&((namedTie Tryz.pinned.checked.prog Rows.bindCalledRow.named Rows.bindCalledSpec.vars)&&(((Rows.bindCalledRow.stops==[]))&&(((Rows.bindCalledRow.knobs==[]))&&(((Rows.bindCalledRow.maps==(Tryz.f3.params.toList++Rows.bindCalledSpec.plain.varTypes Tryz.pinned.checked.prog).any (fun t=>Tryz.pinned.checked.prog.mapsRec t)))&&(((Rows.bindCalledRow.ifaces==(Tryz.f3.params.toList++Rows.bindCalledSpec.plain.varTypes Tryz.pinned.checked.prog).any (fun t=>Tryz.pinned.checked.prog.ifacesRec t)))&&(((Rows.bindCalledRow.mapsOut==Tryz.pinned.checked.prog.mapsAmong Tryz.f3.resultTypes.toList))&&(((Rows.bindCalledRow.loops==(Tryz.f3.params.toList++Rows.bindCalledSpec.plain.varTypes Tryz.pinned.checked.prog).any (fun t=>Tryz.pinned.checked.prog.loopsFrom t)))&&(((Rows.bindCalledRow.wideKeys==(Tryz.f3.params.toList++Rows.bindCalledSpec.plain.varTypes Tryz.pinned.checked.prog++Tryz.f3.resultTypes.toList).any (fun t=>Tryz.pinned.checked.prog.wideKeysFrom t)))&&((Rows.bindCalledSpec.vars.all (fun n=>Tryz.pinned.checked.prog.varReadable n))&&((Tryz.f3.resultTypes.all (fun t=>Tryz.pinned.checked.prog.readableRec t&&decide (t<Tryz.pinned.checked.prog.types.size)))&&(((Rows.bindCalledRow.ifacesOut==Tryz.f3.resultTypes.toList.any (fun t=>Tryz.pinned.checked.prog.ifacesRec t)))&&(((Rows.bindCalledRow.loopsOut==Tryz.f3.resultTypes.toList.any (fun t=>Tryz.pinned.checked.prog.loopsFrom t)))))))))))))))))=true:=by kernel_rfl
 simpa only [Bool.and_eq_true] using h
def tU:((Rows.bindCalledRow.inPlace==Tryz.pinned.checked.prog.inPlace 3))=true/\((Rows.bindCalledRow.unfollowed==Tryz.pinned.checked.prog.unfollowed 3))=true/\((Rows.bindCalledRow.recurses==Tryz.pinned.checked.prog.recurses 3))=true/\((Rows.bindCalledRow.named==Tryz.pinned.checked.prog.varsNamed 3))=true:=by
 have h:(((Rows.bindCalledRow.inPlace==Tryz.pinned.checked.prog.inPlace 3))&&(((Rows.bindCalledRow.unfollowed==Tryz.pinned.checked.prog.unfollowed 3))&&(((Rows.bindCalledRow.recurses==Tryz.pinned.checked.prog.recurses 3))&&(((Rows.bindCalledRow.named==Tryz.pinned.checked.prog.varsNamed 3))))))=true:=by kernel_rfl
 simpa only [Bool.and_eq_true] using h
def nv:((Rows.bindCalledRow.plainKeys==Tryz.pinned.checked.prog.plainKeys))=true/\(Rows.bindCalledRow.shortTexts.isNone)=true/\((Rows.bindCalledRow.lifted==Tryz.pinned.checked.prog.liftsFinal))=true/\((Tryz.pinned.checked.prog.make==some Rows.bindCalledRow.make))=true/\((Rows.bindCalledRow.pinned==Rows.bindCalledRow.pinnedBy))=true/\((Rows.bindCalledRow.veiled==(Tryz.f3.params.toList++Rows.bindCalledSpec.plain.varTypes Tryz.pinned.checked.prog++Tryz.f3.resultTypes.toList).any (fun t=>Tryz.pinned.checked.prog.veiledRec t)))=true/\(Rows.bindCalledRow.veiledFits Tryz.pinned.checked.prog Tryz.f3.params.toList (Tryz.f3.params.toList++Rows.bindCalledSpec.plain.varTypes Tryz.pinned.checked.prog++Tryz.f3.resultTypes.toList))=true:=by
 have h:(((Rows.bindCalledRow.plainKeys==Tryz.pinned.checked.prog.plainKeys))&&((Rows.bindCalledRow.shortTexts.isNone)&&(((Rows.bindCalledRow.lifted==Tryz.pinned.checked.prog.liftsFinal))&&(((Tryz.pinned.checked.prog.make==some Rows.bindCalledRow.make))&&(((Rows.bindCalledRow.pinned==Rows.bindCalledRow.pinnedBy))&&(((Rows.bindCalledRow.veiled==(Tryz.f3.params.toList++Rows.bindCalledSpec.plain.varTypes Tryz.pinned.checked.prog++Tryz.f3.resultTypes.toList).any (fun t=>Tryz.pinned.checked.prog.veiledRec t)))&&((Rows.bindCalledRow.veiledFits Tryz.pinned.checked.prog Tryz.f3.params.toList (Tryz.f3.params.toList++Rows.bindCalledSpec.plain.varTypes Tryz.pinned.checked.prog++Tryz.f3.resultTypes.toList)))))))))=true:=by kernel_rfl
 simpa only [Bool.and_eq_true] using h
def Dj:joinedFacts Tryz.pinned.checked.prog 3 Tryz.f3 Rows.bindCalledSpec Rows.bindCalledRow=true:=by
 unfold joinedFacts
 exact gi (gi (gi (gi (gi (gi (gi (gi (gi (gi (gi (gi (gi (gi (gi (gi (gi (gi (gi (gi (gi (gi (gi (gi (gi (gi (gi (gi (gi (gi (gi (gF.1) (zX.1)) (zX.2.1)) (gF.2.1)) (gF.2.2.1)) (gF.2.2.2.1)) (zX.2.2.1)) (gF.2.2.2.2.1)) (zX.2.2.2.1)) (tU.1)) (tU.2.1)) (tU.2.2.1)) (tU.2.2.2)) (gF.2.2.2.2.2.1)) (gF.2.2.2.2.2.2.1)) (gF.2.2.2.2.2.2.2.1)) (gF.2.2.2.2.2.2.2.2.1)) (gF.2.2.2.2.2.2.2.2.2.1)) (gF.2.2.2.2.2.2.2.2.2.2.1)) (gF.2.2.2.2.2.2.2.2.2.2.2.1)) (gF.2.2.2.2.2.2.2.2.2.2.2.2.1)) (gF.2.2.2.2.2.2.2.2.2.2.2.2.2)) (nv.1)) (nv.2.1)) (zX.2.2.2.2.1)) (zX.2.2.2.2.2)) (nv.2.2.1)) (nv.2.2.2.1)) (by kernel_rfl)) (nv.2.2.2.2.1)) (nv.2.2.2.2.2.1)) (nv.2.2.2.2.2.2)
def FL:Rows.BindCalledSaid:=
 OpenClaim.holds_of_wide 3 Tryz.f3 rfl rfl rfl rfl rfl rfl rfl ⟨rfl,rfl,rfl,rfl,rfl⟩ rfl rfl rfl rfl rfl wu Tryz.func3 Dj
  (of_decide_eq_true (by kernel_rfl)) (by unfold Func.isWrapper;first|(rw [if_pos (by decide+kernel)];kernel_rfl)|(rw [if_neg (by decide+kernel)];exact⟨rfl,rfl⟩))
  (fun os started hb enc _=>Di os started hb enc)
theorem bindCalled_card:Rows.BindCalledCardSaid:=
 Claim7.holds_tied_plain_at .later [] [.data,.widerDeep,.data,.pinned,.pinned] true (true, "843ebdf0ee695685be491856894275861c41368d91e482972085eb1289422c0d") false
  FL (fun _ h=>by cases h) (by kernel_rfl) (fun _ h=>by cases h) bindCalled_row_tie rfl ⟨rfl,rfl⟩ Wy rfl
  (fun f fn hf hfn=>by
   obtain rfl:f=3:=Option.some.inj ((show Tryz.prog.funcNamed "bowsprit/bowspritlaw12.BindCalled" =some 3 from wu).symm.trans hf)|>.symm
   obtain rfl:fn=Tryz.f3:=(Option.some.inj (Tryz.func3.symm.trans hfn)).symm
   exact⟨Un,fun j t M=>by
    rw [Tryz.params3]at M
    have hm:t∈[24,28,29]:=by simpa using Array.mem_of_getElem? M
    have hall:([24,28,29].all fun u=> !Tryz.prog.wantsStandIn u)=true:=by kernel_rfl
    exact(show Tryz.prog.wantsStandIn t=false by simpa using List.all_eq_true.1 hall t hm)⟩)
  FM
#print axioms bindCalled_card
end Go.Proofs.YtigldkegamffhaaGreatDoor

