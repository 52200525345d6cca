/- cT of this claim: P23. -/
import Derived.Test.YtfhhakidodmdfaaGreatDoorJeT
import Derived.Test.YtfhhakidodmdfaaGreatDoorJeP22
set_option linter.all false
namespace Go.Proofs.YtfhhakidodmdfaaGreatDoor
open Go
set_option maxRecDepth 100000

theorem Uf(l:bE){R:(List Int)}(h:sa l=some R):fJ aR 35 [tD cD l] false bT 3 R:=by
 refine fJ.of Tryz.func35 J J J fun w0 S0=>aw<|zo J (js J)<|bL false bT 3<|zo J (aK rr)<|au<|ah<|aw<|zo J (bC oX J J)<|bB h fun r q_r h=>zo J (aE YC (MN _ q_r) ⟨(ht J),aS⟩)<|aF J<|zo J (gV J J)<|zo J (gV J J)<|bo J<|bo J<|au<|aw<|aF J ?_;refine zo J (uL J)<|au<|dd h J (fun h=>?_) (fun h=>?_)
 ·refine aw<|bL false bT 3<|zo J (aK rr)<|au<|am<|ae ?_;cases so h;exact fE J J
 ·refine dU<|aw<|bL false bT 3<|zo J (aK rr)<|au<|ah<|aw<|zo J (de qz kj J J)<|zo J (bC BB J J)<|zo J (iJ uF J)<|zo J (bG hI)<|au<|aA<|bc (k:=16) J fun hN=>bJ<|gz<|oR ?_;refine aT (jq (Z:=fun ls i out l1 c=>(l.Nodes.drop i=ls)∧jz ls out=some R) (Of:=fun _ i out l1 c=>[eH bT 3 l1 c out]) (Gf:=fun _ i out l1 c=>[(5,qS l1 c out),(16,bZ (aI) l.Nodes),(17,jr l.Nodes),(18,bI (i:Int))]) (fun i out l1 c h=>?_) (fun e tl ih i out l1 c h=>?_) l.Nodes 0 uq none 0 ⟨J,h⟩) (bt J)
  ·obtain⟨hx,h⟩:=h
   refine aB<|aw<|zo J (fL J J)<|au<|ah<|bz (ht J) (du hx)<|bu ?_;refine ai (ai (aN ?_));refine av<|aw<|aF rfl<|bB h fun rC q_srt h=>?_;refine Lf (n:=out.length) (ys:=rC) Bj ?_ Z0 ?_ ?_ ?_ ?_ ?_
   ·rfl
   ·exact q_srt
   ·exact(ht J)
   ·rfl
   ·rfl
   intro hl
   refine m7 hl 5 J<|m7 hl 31 J<|au<|aw<|aF J<|bB h fun r1 q_r1 h=>xI [eH bT 3 l1 c rC] _ J ZZ (Wh l1 c _ q_r1) ⟨(ht J),aS⟩ J fun i1=>?_;refine(show RG _ _ _ _ [eH bT 3 (i1.h 0).1 (i1.h 0).2 r1] ((34,qS (i1.h 0).1 (i1.h 0).2 r1)::_)from ?_);refine bo J<|au<|am ?_;cases so h;exact fE J J
  ·obtain⟨hx,h⟩:=h
   refine aB<|aw<|zo J (fL J J)<|au<|ah<|bw (ht J) (dl hx)<|dU<|ah<|aA<|aw<|zo J (ml uF gG J J J (cX hx))<|zo J (bC gG J J)<|aY (r:=aI) (x:=Hu) gG (fun _=>nC _) J fun b=>ax gG J an J (ht J) (ht J)<|aW 7 J<|au<|aw<|zo J (de xx nU J J) ?_;refine zo J (bC cu J J)<|zo J (nr J)<|au<|dd h J (fun h=>?_) (fun h=>?_)
   ·refine aq<|aF J<|zo J (de te ln J J)<|zo J (bC cu J J)<|zo J (aU (r:=bT) (ys:=[e.Table]) (xs:=[.tmp 27]) gF cu J J J J J ⟨(ht J),aS⟩)<|bB h fun out1 q_out1 h=>cO cu J J J J gF J J (ht J) (ht J) q_out1 fun l3 c2=>bo J<|aQ<|ap<|av<|aq<|zo rfl (lZ (cL hx hN) rfl)<|aF rfl<|aQ ?_;exact bg (aT (ih (i+1) out1 l3 c2 ⟨cK hx,h⟩) (bt J))
   ·refine bA<|ap<|av<|aq<|zo rfl (lZ (cL hx hN) rfl)<|aF rfl<|aQ ?_;exact bg (aT (ih (i+1) out l1 c ⟨cK hx,h⟩) (bt J))
end Go.Proofs.YtfhhakidodmdfaaGreatDoor

