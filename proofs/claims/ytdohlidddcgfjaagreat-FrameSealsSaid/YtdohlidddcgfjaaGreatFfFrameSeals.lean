/- bS of this claim: FrameSeals. -/
import Derived.Test.YtdohlidddcgfjaaGreatFfA0
import Derived.Test.YtdohlidddcgfjaaGreatFfP28
import Derived.Test.YtdohlidddcgfjaaGreatFfH26
set_option linter.all false
namespace Go.Proofs.YtdohlidddcgfjaaGreat
open Go Go.ChangeShapes Go.WideShapes Go.ChangeAt Go.RowKit

set_option maxRecDepth 100000 in
def Bq(os:Os)(started:os.Started)(hb:Type)(enc:TypeId×Value->hb):
  ReturnsInHanded {} Tryz.checked os 8 .any (Rows.frameSealsSpec.pre6 enc Tryz.prog Tryz.f8 Rows.frameSealsRow.domain false) (Rows.frameSealsSpec.post enc Tryz.prog Tryz.f8 false true false false):=by
 refine returnsInHanded_of_change (C:=Tryz.checked) X8 started (by kernel_rfl) Tryz.func8
  (ChangeSpec.witness6 (enc:=enc) (C:=Tryz.checked) false ⟨#[],#[.agg #[.int .i64 0,.int .i64 0,.int .i64 0,.int .i64 0,.int .i64 0,.int .i64 0,.slice none 0 0,.int .i64 0,.int .u32 0,.int .u64 0,.int .u64 0,.slice none 0 0,.bool false,.int .u64 0,.int .i64 0],.int .i64 0,.int .u8 0],[]⟩ 8 (by kernel_rfl) (by kernel_rfl) (by kernel_rfl) (by kernel_rfl)) ?_
 intro W base args ds gs before hval0 hW hcnd _
 have hval: ∀(j:Nat) t v,Tryz.f8.params[j]? =some t->args[j]? =some v->Value.okWide Tryz.prog W .any base t v:=hval0
 have hW' :=hW
 obtain⟨p,q,hA0,hV,hbf,hfz,hnd⟩:=hW
 have hA:DataW.TrodAll enc Tryz.prog W 0 (fun _=>true) true Tryz.f8.params.toList args.toList ds p:=hA0
 have hgs:gs=[]:=by
  cases gs with
  |nil=>rfl
  |cons g gs=>exact hV.elim
 rw [Tryz.params8]at hA hval
 obtain⟨v0,v1,v2,d0,d1,d2,p0,p1,p2,hargs,hds,hps,h0,Y,X⟩:=trodAll_three hA
 obtain⟨a0,ha0,ho0⟩:=Wy (aan enc W) UU rfl h0 (Jf Tryz.underlying34 (hval 0 34 v0 rfl (by rw [hargs];rfl)))
 obtain⟨a1,ha1,ho1⟩:=Pm (tG enc W) fX rfl Y (Hy Tryz.underlying3 (hval 1 3 v1 rfl (by rw [hargs];rfl)))
 obtain⟨a2,ha2,ho2⟩:=Pm (acX enc W) fX rfl X (Hy Tryz.underlying5 (hval 2 5 v2 rfl (by rw [hargs];rfl)))
 have hcall:=aa2 a0 a1 a2 (Co a0 ho0 a1 a2 ho2) W (Gd W) [v0,v1,v2] (X2 W (fun _ h=>by cases h) (fun _ _=>trivial)) ⟨ha0,ha1,ha2,trivial⟩
 have hargs' :args=[v0,v1,v2].toArray:=hargs
 rw [<-hargs']at hcall
 refine hcall.mono fun e W' ⟨v,S',he,hext,_,hv⟩=>⟨v,he,?_⟩
 rw [ju.1 hv]
 exact SX (tb:=4) Vj (by rw [Tryz.params8];decide+kernel) rfl rfl Tryz.underlying4 hW' (by rw [hgs,hds];rfl) (Jj hext)
def Cn:Tryz.pinned.checked.prog.funcNamed Rows.frameSealsRow.func=some 8:=by kernel_rfl
def Rn:false=Rows.frameSealsRow.goesBy Tryz.pinned.checked.prog:=by kernel_rfl
def gj:(Rows.frameSealsRow.wf (OpenSpec.ofChange Rows.frameSealsSpec))=true/\(Tryz.f8.params.all (fun t=>Tryz.pinned.checked.prog.readableRec t))=true/\(namedTie Tryz.pinned.checked.prog Rows.frameSealsRow.named Rows.frameSealsSpec.vars)=true/\((Rows.frameSealsRow.stops==[]))=true/\((Rows.frameSealsRow.knobs==[]))=true/\((Rows.frameSealsRow.maps==(Tryz.f8.params.toList++Rows.frameSealsSpec.plain.varTypes Tryz.pinned.checked.prog).any (fun t=>Tryz.pinned.checked.prog.mapsRec t)))=true/\((Rows.frameSealsRow.ifaces==(Tryz.f8.params.toList++Rows.frameSealsSpec.plain.varTypes Tryz.pinned.checked.prog).any (fun t=>Tryz.pinned.checked.prog.ifacesRec t)))=true/\((Rows.frameSealsRow.mapsOut==Tryz.pinned.checked.prog.mapsAmong Tryz.f8.resultTypes.toList))=true/\((Rows.frameSealsRow.loops==(Tryz.f8.params.toList++Rows.frameSealsSpec.plain.varTypes Tryz.pinned.checked.prog).any (fun t=>Tryz.pinned.checked.prog.loopsFrom t)))=true/\((Rows.frameSealsRow.wideKeys==(Tryz.f8.params.toList++Rows.frameSealsSpec.plain.varTypes Tryz.pinned.checked.prog++Tryz.f8.resultTypes.toList).any (fun t=>Tryz.pinned.checked.prog.wideKeysFrom t)))=true/\(Rows.frameSealsSpec.vars.all (fun n=>Tryz.pinned.checked.prog.varReadable n))=true/\(Tryz.f8.resultTypes.all (fun t=>Tryz.pinned.checked.prog.readableRec t&&decide (t<Tryz.pinned.checked.prog.types.size)))=true/\((Rows.frameSealsRow.ifacesOut==Tryz.f8.resultTypes.toList.any (fun t=>Tryz.pinned.checked.prog.ifacesRec t)))=true/\((Rows.frameSealsRow.loopsOut==Tryz.f8.resultTypes.toList.any (fun t=>Tryz.pinned.checked.prog.loopsFrom t)))=true:=by
 have h:((Rows.frameSealsRow.wf (OpenSpec.ofChange Rows.frameSealsSpec))&&((Tryz.f8.params.all (fun t=>Tryz.pinned.checked.prog.readableRec t))&&((namedTie Tryz.pinned.checked.prog Rows.frameSealsRow.named Rows.frameSealsSpec.vars)&&(((Rows.frameSealsRow.stops==[]))&&(((Rows.frameSealsRow.knobs==[]))&&(((Rows.frameSealsRow.maps==(Tryz.f8.params.toList++Rows.frameSealsSpec.plain.varTypes Tryz.pinned.checked.prog).any (fun t=>Tryz.pinned.checked.prog.mapsRec t)))&&(((Rows.frameSealsRow.ifaces==(Tryz.f8.params.toList++Rows.frameSealsSpec.plain.varTypes Tryz.pinned.checked.prog).any (fun t=>Tryz.pinned.checked.prog.ifacesRec t)))&&(((Rows.frameSealsRow.mapsOut==Tryz.pinned.checked.prog.mapsAmong Tryz.f8.resultTypes.toList))&&(((Rows.frameSealsRow.loops==(Tryz.f8.params.toList++Rows.frameSealsSpec.plain.varTypes Tryz.pinned.checked.prog).any (fun t=>Tryz.pinned.checked.prog.loopsFrom t)))&&(((Rows.frameSealsRow.wideKeys==(Tryz.f8.params.toList++Rows.frameSealsSpec.plain.varTypes Tryz.pinned.checked.prog++Tryz.f8.resultTypes.toList).any (fun t=>Tryz.pinned.checked.prog.wideKeysFrom t)))&&((Rows.frameSealsSpec.vars.all (fun n=>Tryz.pinned.checked.prog.varReadable n))&&((Tryz.f8.resultTypes.all (fun t=>Tryz.pinned.checked.prog.readableRec t&&decide (t<Tryz.pinned.checked.prog.types.size)))&&(((Rows.frameSealsRow.ifacesOut==Tryz.f8.resultTypes.toList.any (fun t=>Tryz.pinned.checked.prog.ifacesRec t)))&&(((Rows.frameSealsRow.loopsOut==Tryz.f8.resultTypes.toList.any (fun t=>Tryz.pinned.checked.prog.loopsFrom t)))))))))))))))))=true:=by kernel_rfl
 simpa only [Bool.and_eq_true] using h
def sY:((Rows.frameSealsRow.inPlace==Tryz.pinned.checked.prog.inPlace 8))=true/\((Rows.frameSealsRow.unfollowed==Tryz.pinned.checked.prog.unfollowed 8))=true/\((Rows.frameSealsRow.recurses==Tryz.pinned.checked.prog.recurses 8))=true/\((Rows.frameSealsRow.named==Tryz.pinned.checked.prog.varsNamed 8))=true:=by
 have h:(((Rows.frameSealsRow.inPlace==Tryz.pinned.checked.prog.inPlace 8))&&(((Rows.frameSealsRow.unfollowed==Tryz.pinned.checked.prog.unfollowed 8))&&(((Rows.frameSealsRow.recurses==Tryz.pinned.checked.prog.recurses 8))&&(((Rows.frameSealsRow.named==Tryz.pinned.checked.prog.varsNamed 8))))))=true:=by kernel_rfl
 simpa only [Bool.and_eq_true] using h
def nc:((Rows.frameSealsRow.plainKeys==Tryz.pinned.checked.prog.plainKeys))=true/\(Rows.frameSealsRow.shortTexts.isNone)=true/\((Rows.frameSealsRow.lifted==Tryz.pinned.checked.prog.liftsFinal))=true/\((Tryz.pinned.checked.prog.make==some Rows.frameSealsRow.make))=true/\((Rows.frameSealsRow.pinned==Rows.frameSealsRow.pinnedBy))=true/\((Rows.frameSealsRow.veiled==(Tryz.f8.params.toList++Rows.frameSealsSpec.plain.varTypes Tryz.pinned.checked.prog++Tryz.f8.resultTypes.toList).any (fun t=>Tryz.pinned.checked.prog.veiledRec t)))=true/\(Rows.frameSealsRow.veiledFits Tryz.pinned.checked.prog Tryz.f8.params.toList (Tryz.f8.params.toList++Rows.frameSealsSpec.plain.varTypes Tryz.pinned.checked.prog++Tryz.f8.resultTypes.toList))=true:=by
 have h:(((Rows.frameSealsRow.plainKeys==Tryz.pinned.checked.prog.plainKeys))&&((Rows.frameSealsRow.shortTexts.isNone)&&(((Rows.frameSealsRow.lifted==Tryz.pinned.checked.prog.liftsFinal))&&(((Tryz.pinned.checked.prog.make==some Rows.frameSealsRow.make))&&(((Rows.frameSealsRow.pinned==Rows.frameSealsRow.pinnedBy))&&(((Rows.frameSealsRow.veiled==(Tryz.f8.params.toList++Rows.frameSealsSpec.plain.varTypes Tryz.pinned.checked.prog++Tryz.f8.resultTypes.toList).any (fun t=>Tryz.pinned.checked.prog.veiledRec t)))&&((Rows.frameSealsRow.veiledFits Tryz.pinned.checked.prog Tryz.f8.params.toList (Tryz.f8.params.toList++Rows.frameSealsSpec.plain.varTypes Tryz.pinned.checked.prog++Tryz.f8.resultTypes.toList)))))))))=true:=by kernel_rfl
 simpa only [Bool.and_eq_true] using h
def Br:joinedFacts Tryz.pinned.checked.prog 8 Tryz.f8 Rows.frameSealsSpec Rows.frameSealsRow=true:=by
 unfold joinedFacts
 exact fI (fI (fI (fI (fI (fI (fI (fI (fI (fI (fI (fI (fI (fI (fI (fI (fI (fI (fI (fI (fI (fI (fI (fI (fI (fI (fI (fI (fI (fI (fI (gj.1) (yN.1)) (yN.2.1)) (gj.2.1)) (gj.2.2.1)) (gj.2.2.2.1)) (yN.2.2.1)) (gj.2.2.2.2.1)) (yN.2.2.2.1)) (sY.1)) (sY.2.1)) (sY.2.2.1)) (sY.2.2.2)) (gj.2.2.2.2.2.1)) (gj.2.2.2.2.2.2.1)) (gj.2.2.2.2.2.2.2.1)) (gj.2.2.2.2.2.2.2.2.1)) (gj.2.2.2.2.2.2.2.2.2.1)) (gj.2.2.2.2.2.2.2.2.2.2.1)) (gj.2.2.2.2.2.2.2.2.2.2.2.1)) (gj.2.2.2.2.2.2.2.2.2.2.2.2.1)) (gj.2.2.2.2.2.2.2.2.2.2.2.2.2)) (nc.1)) (nc.2.1)) (yN.2.2.2.2.1)) (yN.2.2.2.2.2)) (nc.2.2.1)) (nc.2.2.2.1)) (by kernel_rfl)) (nc.2.2.2.2.1)) (nc.2.2.2.2.2.1)) (nc.2.2.2.2.2.2)
theorem frameSeals_said:Rows.FrameSealsSaid:=
 OpenClaim.holds_of_wide 8 Tryz.f8 rfl rfl rfl rfl rfl rfl rfl ⟨rfl,rfl,rfl,rfl,rfl⟩ rfl rfl rfl rfl rfl Cn Tryz.func8 Br
  (of_decide_eq_true (by kernel_rfl)) (by unfold Func.isWrapper;first|(rw [if_pos (by decide+kernel)];kernel_rfl)|(rw [if_neg (by decide+kernel)];exact⟨rfl,rfl⟩))
  (fun os started hb enc _=>Bq os started hb enc)
#print axioms frameSeals_said
end Go.Proofs.YtdohlidddcgfjaaGreat

