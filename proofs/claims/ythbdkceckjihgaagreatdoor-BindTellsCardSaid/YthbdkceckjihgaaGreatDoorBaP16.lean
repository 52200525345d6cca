/- cH of this claim: P16. -/
import Derived.Test.YthbdkceckjihgaaGreatDoorBaT
import Derived.Test.YthbdkceckjihgaaGreatDoorBaP15
set_option linter.all false
namespace Go.Proofs.YthbdkceckjihgaaGreatDoor
open Go
set_option maxRecDepth 100000

def LS t{R}(h:vh t=some R):cw aH 81 [V bh t] (ia R):=by
 refine cX Tryz.func81 I<|aU<|cY I<|bQ<|bG<|aZ<|bN kE gv sP I<|cu nv I<|d (bt hI)<|bG<|ai<|aQ (k:=6) I fun hN=>bq ?_;refine aE (eH (aw:=fun ls i=>(t.Nodes.drop i=ls)/\kZ ls=some R) (Of:=fun _ i=>[]) (Gf:=fun _ i=>[(6,fO (cg) t.Nodes),(7,jf t.Nodes),(8,aO (i:Int))]) (fun i h=>?_) (fun e tl ih i h=>?_) t.Nodes 0 ⟨I,h⟩) (be I)
 ·obtain⟨A,h⟩:=h
  exact dr A I<|av<|aU<|bQ<|dh<|so h▸aA I I
 ·obtain⟨A,h⟩:=h
  refine dq A I<|aF<|ai<|aU<|eM nv ko I (dv A)<|aT ko tI I fun b=>bX ko al I<|aP 4 I<|bG<|aU<|pb ni jX I ?_;refine cN cF I<|eD h Oy (JX _) (dc I) fun r h=>cE h I (fun h=>?_) (fun h=>?_)
  ·exact aU<|bQ<|dh<|cz<|ah<|cz<|so h▸aA I I
  ·refine bA<|db A hN I ?_;exact aM (aE (ih (i+1) ⟨cW A,h⟩) (be I))

def Ma s{R}(h:md s=some R):cw aH 27 [V aV s] (ia R):=by
 refine cX Tryz.func27 I<|aU<|cY I<|bQ<|bG<|aU<|bN s6 iN Ar I<|cu ww I<|d (fz (Y I) hI)<|a8 I<|aK I (dP s7 mA I I)<|aK I (fun K=>gY kE I gv I (bI I K))<|aK I (du sP I I)<|aK I (kV nv I)<|aK I (fun K=>fz (bI I K) hI)<|gU I<|bk I<|aF ?_;refine aU<|bN nS iO xo I<|cu oW I<|d (bt hI)<|bG<|ai<|aQ (k:=18) I fun hN=>bq ?_;refine aE (ft (aw:=fun ls i out=>(s.Items.drop i=ls)/\gu ls out=some R) (Of:=fun _ i out=>[]) (Gf:=fun _ i out=>[(3,ia out),(18,fO (cV) s.Items),(19,jf s.Items),(20,aO (i:Int))]) (fun i out h=>?_) (fun e tl ih i out h=>?_) s.Items 0 ((decide ((0:Int)<(s.Group.length:Int)))||(decide ((0:Int)<(s.Having.Nodes.length:Int)))) ⟨I,h⟩) (be I)
 ·obtain⟨A,h⟩:=h
  exact dr A I<|av<|aG I<|aR I<|so h▸aA I I
 ·obtain⟨A,h⟩:=h
  refine dq A I<|aF<|ai<|aU<|eM oW lJ I (dv A)<|aT lJ pz I fun b=>bX lJ al I<|aP 5 I<|bG<|aL<|a8 I<|a8 I ?_;refine ck h fun t q_t h=>aK I (dP pO kL I I)<|aK I (du iR I I) ?_
  obtain⟨r,h1t,h0t⟩:=og q_t
  have q_rg:=fun D=>(h1t D).1
  refine aK I (fun K=>bp PE (LS _ (q_rg K)) ⟨(bI I K),Q⟩)<|d (cP (Y I) (fun D=>(bI I (lD D))) (fun D=>(h1t D).2) h0t)<|gJ I<|bu<|db A hN I ?_;exact aM (aE (ih (i+1) t ⟨cW A,h⟩) (be I))

end Go.Proofs.YthbdkceckjihgaaGreatDoor

