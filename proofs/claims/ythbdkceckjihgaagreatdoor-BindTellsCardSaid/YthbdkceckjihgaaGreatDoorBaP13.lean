/- cH of this claim: P13. -/
import Derived.Test.YthbdkceckjihgaaGreatDoorBaT
import Derived.Test.YthbdkceckjihgaaGreatDoorBaP12
set_option linter.all false
namespace Go.Proofs.YthbdkceckjihgaaGreatDoor
open Go
set_option maxRecDepth 100000

def Jn c tables{R}(h:mt c tables=some R):fL aH 24 [V bc c,lE tables] false aC 3 R:=by
 refine fL.of Tryz.func24 I I I fun w0 S0=>aU<|cY I<|bS false aC 3<|d (bC tw)<|bG<|aU<|bS false aC 3<|d (bC tw)<|bG<|aZ<|a8 I<|cu eu I<|d (bt hI)<|bG<|ai<|aQ (k:=10) I fun hN=>?_;refine bq<|fg<|qg ?_;refine aE (jO (aw:=fun ls i out l c1=>(tables.drop i=ls)/\gz c ls out=some R) (Of:=fun _ i out l c1=>[eg aC 3 l c1 out]) (Gf:=fun _ i out l c1=>[(2,bb bc c),(5,oq l c1 out),(10,lE tables),(11,jf tables),(12,aO (i:Int))]) (fun i out l c1 h=>?_) (fun e tl ih i out l c1 h=>?_) tables 0 sM none 0 ⟨I,h⟩) (be I)
 ·obtain⟨A,h⟩:=h
  exact dr A I<|av<|aG I<|aR I<|so h▸jp I I
 ·obtain⟨A,h⟩:=h
  refine dq A I<|aF<|ai<|aU<|eM eu cF I (dv A)<|bk I<|aU<|bN iU dw pd I<|a8 I ?_;refine ck h fun e1 q_e1 h=>nB mj ie I q_e1<|bN g9 ew mp I<|cu kQ I<|d (bt hI)<|bG<|ai<|aQ (k:=21) I fun hN1=>bq ?_;refine aE (jO (aw:=fun ls1 i1 out1 l1 c2=>(e1.Columns.drop i1=ls1)/\ju (gz c tl) ls1 out1=some R) (Of:=fun _ i1 out1 l1 c2=>[eg aC 3 l1 c2 out1]) (Gf:=fun _ i1 out1 l1 c2=>[(2,bb bc c),(5,oq l1 c2 out1),(10,lE tables),(11,jf tables),(12,aO (i:Int)),(21,fO (bO) e1.Columns),(22,jf e1.Columns),(23,aO (i1:Int))]) (fun i1 out1 l1 c2 h=>?_) (fun e2 tl1 ih1 i1 out1 l1 c2 h=>?_) e1.Columns 0 out l c1 ⟨I,h⟩) (be I)
  ·obtain⟨hx1,h⟩:=h
   refine dr hx1 I<|db A hN I ?_;exact aM (aE (ih (i+1) out1 l1 c2 ⟨cW A,h⟩) (be I))
  ·obtain⟨hx1,h⟩:=h
   refine dq hx1 I<|aF<|ai<|aU<|eM kQ fG I (dv hx1)<|aT fG i7 I fun b=>bX fG al I<|aP 9 I<|bG<|aL<|a8 I<|pb uz mC I ?_;refine cN cF I<|d (aW (r:=aC) (ys:=[e2.Kind]) (xs:=[.tmp 29]) eu cF I I I I I ⟨(Y I),Q⟩)<|ck h fun out2 q_out2 h=>dH cF I I I I eu I I (Y I) (Y I) q_out2 fun l2 c3=>gJ I<|bu<|db hx1 hN1 I ?_;exact aM (aE (ih1 (i1+1) out2 l2 c3 ⟨cW hx1,h⟩) (be I))
end Go.Proofs.YthbdkceckjihgaaGreatDoor

