/- dm of this claim: BindDoes. -/
import Derived.Test.YthbdkceckjihgaaGreatDoorBcA0
import Derived.Test.YthbdkceckjihgaaGreatDoorBcP20
import Derived.Test.YthbdkceckjihgaaGreatDoorBcB20
import Derived.Test.YthbdkceckjihgaaGreatDoorTie
import Derived.Test.YthbdkceckjihgaaGreatDoorCards
import Derived.SevenTiedAt
set_option linter.all false
namespace Go.Proofs.YthbdkceckjihgaaGreatDoor
open Go Go.ChangeShapes Go.WideShapes Go.ChangeAt Go.RowKit

set_option maxRecDepth 100000 in
def Fn(os:Os)(started:os.Started)(h1:Type)(enc:TypeId×Value->h1):
  ReturnsInHanded {} Tryz.checked os 3 .any (fun w args=>(Rows.bindDoesSpec.pre enc Tryz.prog Tryz.f3 [] false w args/\laidMetH Tryz.prog CZ w)/\sizedMet enc Tryz.prog Tryz.f3 (OpenSpec.ofChange Rows.bindDoesSpec) false w args)
   (Rows.bindDoesSpec.post enc Tryz.prog Tryz.f3 false true false false):=by
 refine returnsInHanded_of_change_and (C:=Tryz.checked) (X:=fun w _=>laidMetH Tryz.prog CZ w) (fun _ _ _ hh h=>h.of_heap hh) X9 started (by kernel_rfl) Tryz.func3
  (ChangeSpec.witness_shaped (enc:=enc) (C:=Tryz.checked) (os:=os) (X:=fun w _=>laidMetH Tryz.prog CZ w) false (World.laidAll Tryz.prog os CZ) #[.agg #[.slice none 0 0],.slice none 0 0] 8 (World.laidAll_os _ _ _) (World.shaped_of_ZipB (by kernel_rfl) (by kernel_rfl)) (by kernel_rfl) (by kernel_rfl) (by kernel_rfl) (TT os _)) ?_
 intro W base args ds gs before hval0 hW hcnd _ hL _
 have hval: ∀(j:Nat) t v,Tryz.f3.params[j]? =some t->args[j]? =some v->Value.okWide Tryz.prog W .any base t v:=hval0
 have hW' :=hW
 obtain⟨p,q,hA0,hV,hbf,hfz,hnd⟩:=hW
 have hA:DataW.TrodAll enc Tryz.prog W 0 (fun _=>true) true Tryz.f3.params.toList args.toList ds p:=hA0
 have hgs:gs=[]:=by
  cases gs with
  |nil=>rfl
  |cons g gs=>exact hV.elim
 rw [Tryz.params3]at hA hval
 obtain⟨v0,v1,d0,d1,p0,p1,hargs,hds,hps,h0,H⟩:=trodAll_two hA
 obtain⟨a0,ha0,ho0⟩:=WG (ZT enc W) LD rfl h0 (KA Tryz.underlying24 (hval 0 24 v0 rfl (by rw [hargs];rfl)))
 obtain⟨a1,ha1,ho1⟩:=WF (ZS enc W) (xc Rh) rfl H (Mv Tryz.underlying25 (hval 1 25 v1 rfl (by rw [hargs];rfl)))
 have hcall:=aaF a0 a1 (Ir a0 a1) W (Ie W) [v0,v1] (X7 W (RJ hL) (SB hL)) ⟨ha0,ha1,trivial⟩
 have hargs' :args=[v0,v1].toArray:=hargs
 rw [<-hargs']at hcall
 refine hcall.mono fun e W' ⟨v,S',he,hext,_,hv⟩=>⟨v,he,?_⟩
 rw [kP.1 hv]
 exact S9 (tb:=4) Vb (by rw [Tryz.params3];decide+kernel) rfl rfl Tryz.underlying4 hW' (by rw [hgs,hds];rfl) (KC hext)
def z6:Tryz.pinned.checked.prog.funcNamed Rows.bindDoesRow.func=some 3:=by kernel_rfl
def Ij:false=Rows.bindDoesRow.goesBy Tryz.pinned.checked.prog:=by kernel_rfl
def jz:(Rows.bindDoesRow.wf (OpenSpec.ofChange Rows.bindDoesSpec))=true/\(Tryz.f3.params.all (fun t=>Tryz.pinned.checked.prog.readableRec t))=true/\(namedTie Tryz.pinned.checked.prog Rows.bindDoesRow.named Rows.bindDoesSpec.vars)=true/\((Rows.bindDoesRow.stops==[]))=true/\((Rows.bindDoesRow.knobs==[]))=true/\((Rows.bindDoesRow.maps==(Tryz.f3.params.toList++Rows.bindDoesSpec.plain.varTypes Tryz.pinned.checked.prog).any (fun t=>Tryz.pinned.checked.prog.mapsRec t)))=true/\((Rows.bindDoesRow.ifaces==(Tryz.f3.params.toList++Rows.bindDoesSpec.plain.varTypes Tryz.pinned.checked.prog).any (fun t=>Tryz.pinned.checked.prog.ifacesRec t)))=true/\((Rows.bindDoesRow.mapsOut==Tryz.pinned.checked.prog.mapsAmong Tryz.f3.resultTypes.toList))=true/\((Rows.bindDoesRow.loops==(Tryz.f3.params.toList++Rows.bindDoesSpec.plain.varTypes Tryz.pinned.checked.prog).any (fun t=>Tryz.pinned.checked.prog.loopsFrom t)))=true/\((Rows.bindDoesRow.wideKeys==(Tryz.f3.params.toList++Rows.bindDoesSpec.plain.varTypes Tryz.pinned.checked.prog++Tryz.f3.resultTypes.toList).any (fun t=>Tryz.pinned.checked.prog.wideKeysFrom t)))=true/\(Rows.bindDoesSpec.vars.all (fun n=>Tryz.pinned.checked.prog.varReadable n))=true/\(Tryz.f3.resultTypes.all (fun t=>Tryz.pinned.checked.prog.readableRec t&&decide (t<Tryz.pinned.checked.prog.types.size)))=true/\((Rows.bindDoesRow.ifacesOut==Tryz.f3.resultTypes.toList.any (fun t=>Tryz.pinned.checked.prog.ifacesRec t)))=true/\((Rows.bindDoesRow.loopsOut==Tryz.f3.resultTypes.toList.any (fun t=>Tryz.pinned.checked.prog.loopsFrom t)))=true:=by
 have h:((Rows.bindDoesRow.wf (OpenSpec.ofChange Rows.bindDoesSpec))&&((Tryz.f3.params.all (fun t=>Tryz.pinned.checked.prog.readableRec t))&&((namedTie Tryz.pinned.checked.prog Rows.bindDoesRow.named Rows.bindDoesSpec.vars)&&(((Rows.bindDoesRow.stops==[]))&&(((Rows.bindDoesRow.knobs==[]))&&(((Rows.bindDoesRow.maps==(Tryz.f3.params.toList++Rows.bindDoesSpec.plain.varTypes Tryz.pinned.checked.prog).any (fun t=>Tryz.pinned.checked.prog.mapsRec t)))&&(((Rows.bindDoesRow.ifaces==(Tryz.f3.params.toList++Rows.bindDoesSpec.plain.varTypes Tryz.pinned.checked.prog).any (fun t=>Tryz.pinned.checked.prog.ifacesRec t)))&&(((Rows.bindDoesRow.mapsOut==Tryz.pinned.checked.prog.mapsAmong Tryz.f3.resultTypes.toList))&&(((Rows.bindDoesRow.loops==(Tryz.f3.params.toList++Rows.bindDoesSpec.plain.varTypes Tryz.pinned.checked.prog).any (fun t=>Tryz.pinned.checked.prog.loopsFrom t)))&&(((Rows.bindDoesRow.wideKeys==(Tryz.f3.params.toList++Rows.bindDoesSpec.plain.varTypes Tryz.pinned.checked.prog++Tryz.f3.resultTypes.toList).any (fun t=>Tryz.pinned.checked.prog.wideKeysFrom t)))&&((Rows.bindDoesSpec.vars.all (fun n=>Tryz.pinned.checked.prog.varReadable n))&&((Tryz.f3.resultTypes.all (fun t=>Tryz.pinned.checked.prog.readableRec t&&decide (t<Tryz.pinned.checked.prog.types.size)))&&(((Rows.bindDoesRow.ifacesOut==Tryz.f3.resultTypes.toList.any (fun t=>Tryz.pinned.checked.prog.ifacesRec t)))&&(((Rows.bindDoesRow.loopsOut==Tryz.f3.resultTypes.toList.any (fun t=>Tryz.pinned.checked.prog.loopsFrom t)))))))))))))))))=true:=by kernel_rfl
 simpa only [Bool.and_eq_true] using h
def yC:((Rows.bindDoesRow.inPlace==Tryz.pinned.checked.prog.inPlace 3))=true/\((Rows.bindDoesRow.unfollowed==Tryz.pinned.checked.prog.unfollowed 3))=true/\((Rows.bindDoesRow.recurses==Tryz.pinned.checked.prog.recurses 3))=true/\((Rows.bindDoesRow.named==Tryz.pinned.checked.prog.varsNamed 3))=true:=by
 have h:(((Rows.bindDoesRow.inPlace==Tryz.pinned.checked.prog.inPlace 3))&&(((Rows.bindDoesRow.unfollowed==Tryz.pinned.checked.prog.unfollowed 3))&&(((Rows.bindDoesRow.recurses==Tryz.pinned.checked.prog.recurses 3))&&(((Rows.bindDoesRow.named==Tryz.pinned.checked.prog.varsNamed 3))))))=true:=by kernel_rfl
 simpa only [Bool.and_eq_true] using h
def rl:((Rows.bindDoesRow.plainKeys==Tryz.pinned.checked.prog.plainKeys))=true/\(Rows.bindDoesRow.shortTexts.isNone)=true/\((Rows.bindDoesRow.lifted==Tryz.pinned.checked.prog.liftsFinal))=true/\((Tryz.pinned.checked.prog.make==some Rows.bindDoesRow.make))=true/\((Rows.bindDoesRow.pinned==Rows.bindDoesRow.pinnedBy))=true/\((Rows.bindDoesRow.veiled==(Tryz.f3.params.toList++Rows.bindDoesSpec.plain.varTypes Tryz.pinned.checked.prog++Tryz.f3.resultTypes.toList).any (fun t=>Tryz.pinned.checked.prog.veiledRec t)))=true/\(Rows.bindDoesRow.veiledFits Tryz.pinned.checked.prog Tryz.f3.params.toList (Tryz.f3.params.toList++Rows.bindDoesSpec.plain.varTypes Tryz.pinned.checked.prog++Tryz.f3.resultTypes.toList))=true:=by
 have h:(((Rows.bindDoesRow.plainKeys==Tryz.pinned.checked.prog.plainKeys))&&((Rows.bindDoesRow.shortTexts.isNone)&&(((Rows.bindDoesRow.lifted==Tryz.pinned.checked.prog.liftsFinal))&&(((Tryz.pinned.checked.prog.make==some Rows.bindDoesRow.make))&&(((Rows.bindDoesRow.pinned==Rows.bindDoesRow.pinnedBy))&&(((Rows.bindDoesRow.veiled==(Tryz.f3.params.toList++Rows.bindDoesSpec.plain.varTypes Tryz.pinned.checked.prog++Tryz.f3.resultTypes.toList).any (fun t=>Tryz.pinned.checked.prog.veiledRec t)))&&((Rows.bindDoesRow.veiledFits Tryz.pinned.checked.prog Tryz.f3.params.toList (Tryz.f3.params.toList++Rows.bindDoesSpec.plain.varTypes Tryz.pinned.checked.prog++Tryz.f3.resultTypes.toList)))))))))=true:=by kernel_rfl
 simpa only [Bool.and_eq_true] using h
def Fo:joinedFacts Tryz.pinned.checked.prog 3 Tryz.f3 Rows.bindDoesSpec Rows.bindDoesRow=true:=by
 unfold joinedFacts
 exact fY (fY (fY (fY (fY (fY (fY (fY (fY (fY (fY (fY (fY (fY (fY (fY (fY (fY (fY (fY (fY (fY (fY (fY (fY (fY (fY (fY (fY (fY (fY (jz.1) (Av.1)) (Av.2.1)) (jz.2.1)) (jz.2.2.1)) (jz.2.2.2.1)) (Av.2.2.1)) (jz.2.2.2.2.1)) (Av.2.2.2.1)) (yC.1)) (yC.2.1)) (yC.2.2.1)) (yC.2.2.2)) (jz.2.2.2.2.2.1)) (jz.2.2.2.2.2.2.1)) (jz.2.2.2.2.2.2.2.1)) (jz.2.2.2.2.2.2.2.2.1)) (jz.2.2.2.2.2.2.2.2.2.1)) (jz.2.2.2.2.2.2.2.2.2.2.1)) (jz.2.2.2.2.2.2.2.2.2.2.2.1)) (jz.2.2.2.2.2.2.2.2.2.2.2.2.1)) (jz.2.2.2.2.2.2.2.2.2.2.2.2.2)) (rl.1)) (rl.2.1)) (Av.2.2.2.2.1)) (Av.2.2.2.2.2)) (rl.2.2.1)) (rl.2.2.2.1)) (by kernel_rfl)) (rl.2.2.2.2.1)) (rl.2.2.2.2.2.1)) (rl.2.2.2.2.2.2)
def Ii:Rows.BindDoesSaid:=
 OpenClaim.holds_of_wide 3 Tryz.f3 rfl rfl rfl rfl rfl rfl rfl ⟨rfl,rfl,rfl,rfl,rfl⟩ rfl rfl rfl rfl rfl z6 Tryz.func3 Fo
  (of_decide_eq_true (by kernel_rfl)) (by unfold Func.isWrapper;first|(rw [if_pos (by decide+kernel)];kernel_rfl)|(rw [if_neg (by decide+kernel)];exact⟨rfl,rfl⟩))
  (fun os started h1 enc _=>Fn os started h1 enc)
theorem bindDoes_card:Rows.BindDoesCardSaid:=
 Claim7.holds_tied_plain_at .later [] [.data,.widerDeep,.data,.pinned,.pinned] true (true, "994ba46e7a82f8141f915d9f3da3b6056a2eae399341bbf3229131cb61b0b052") false
  Ii (fun _ h=>by cases h) (by kernel_rfl) (fun _ h=>by cases h) bindDoes_row_tie rfl ⟨rfl,rfl⟩ U4 rfl
  (fun f fn hf hfn=>by
   obtain rfl:f=3:=Option.some.inj ((show Tryz.prog.funcNamed "bowsprit/bowspritlaw12.BindDoes" =some 3 from z6).symm.trans hf)|>.symm
   obtain rfl:fn=Tryz.f3:=(Option.some.inj (Tryz.func3.symm.trans hfn)).symm
   exact⟨ST,fun j t M=>by
    rw [Tryz.params3]at M
    have hm:t∈[24,25]:=by simpa using Array.mem_of_getElem? M
    have hall:([24,25].all fun u=> !Tryz.prog.wantsStandIn u)=true:=by kernel_rfl
    exact(show Tryz.prog.wantsStandIn t=false by simpa using List.all_eq_true.1 hall t hm)⟩)
  Ij
#print axioms bindDoes_card
end Go.Proofs.YthbdkceckjihgaaGreatDoor

