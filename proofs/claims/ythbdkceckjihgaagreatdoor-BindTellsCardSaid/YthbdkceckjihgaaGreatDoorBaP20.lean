/- cH of this claim: P20. -/
import Derived.Test.YthbdkceckjihgaaGreatDoorBaT
import Derived.Test.YthbdkceckjihgaaGreatDoorBaP19
set_option linter.all false
namespace Go.Proofs.YthbdkceckjihgaaGreatDoor
open Go
set_option maxRecDepth 100000

def J3 s f{R}(h:hP s f=some R):cw aH 113 [lE s,(eV aH IH tJ (fun(x:Int)=>f x))] (aO R):=by
 refine cX Tryz.func113 I<|aU<|bJ<|bG<|aZ<|a8 I<|cu eu I<|d (bt hI)<|bG<|ai<|aQ (k:=6) I fun hN=>bq ?_;refine aE (eH (aw:=fun ls i=>(s.drop i=ls)/\dX f ls i=some R) (Of:=fun _ i=>[]) (Gf:=fun _ i=>[(0,lE s),(1,(eV aH IH tJ (fun(x:Int)=>f x))),(7,jf s),(8,aO (i:Int))]) (fun i h=>?_) (fun e tl ih i h=>?_) s 0 ⟨I,h⟩) (be I)
 ·obtain⟨A,h⟩:=h
  exact dr A I<|av<|aU<|ev<|so h▸aA I I
 ·obtain⟨A,h⟩:=h
  refine dq A I<|aF<|ai<|aG I<|bk I<|aG I<|a8 I<|a8 I<|nB eu cF I (dv A) ?_;refine cN cF I<|ck h fun r q_r h=>d (fq (args:=(fun(x:Int)=>[V aC x])) (res:=Bx) (f:=(fun(x:Int)=>f x)) (x:=((e):Int)) (Y I) q_r ⟨(Y I),Q⟩)<|cE h I (fun h=>?_) (fun h=>?_)
  ·exact aG I<|aR I<|cz<|ah<|cz<|so h▸aA I I
  ·refine bA<|db A hN I ?_;exact aM (aE (ih (i+1) ⟨cW A,h⟩) (be I))

def L3 s f{R}(h:eU s f=some R):cw aH 56 [lE s,(eV aH IH tJ (fun(x:Int)=>f x))] (ia R):=by
 exact cX Tryz.func56 I<|aU<|bQ<|bG<|aG I<|a8 I<|eD h OL (J3 _ _) (dc I) fun r h=>d (e9 (Y I) hI)<|aR I<|so h▸aA I I

def L2 c t{R}(h:lp c t=some R):cw aH 57 [aO t,bb bc c] (ia R):=by
 exact cX Tryz.func57 I<|aU<|bQ<|bG<|aG I<|d (fl (Y I) hI)<|a8 I<|aK I (cO I)<|aK I (dP iU dw I I)<|aK I (du pd I I)<|aK I (kV mj I)<|aK I (fun K=>e9 (bI I K) (bI I K))<|gU I<|aR I<|so h▸aA I I

def Jf c tables{R}(h:nW c tables=some R):fL aH 58 [V bc c,lE tables] false aC 3 R:=by
 refine fL.of Tryz.func58 I I I fun w0 S0=>aU<|cY I<|bS false aC 3<|d (bC tw)<|bG<|aU<|bS false aC 3<|d (bC tw)<|bG<|aZ<|a8 I<|cu eu I<|d (bt hI)<|bG<|ai<|aQ (k:=10) I fun hN=>?_;refine bq<|fg<|qg ?_;refine aE (jO (aw:=fun ls i out l c1=>(tables.drop i=ls)/\eX c ls out=some R) (Of:=fun _ i out l c1=>[eg aC 3 l c1 out]) (Gf:=fun _ i out l c1=>[(2,bb bc c),(5,oq l c1 out),(10,lE tables),(11,jf tables),(12,aO (i:Int))]) (fun i out l c1 h=>?_) (fun e tl ih i out l c1 h=>?_) tables 0 sM none 0 ⟨I,h⟩) (be I)
 ·obtain⟨A,h⟩:=h
  exact dr A I<|av<|aG I<|aR I<|so h▸jp I I
 ·obtain⟨A,h⟩:=h
  refine dq A I<|aF<|ai<|aU<|eM eu cF I (dv A)<|bk I<|aU<|bN iU dw pd I<|a8 I ?_;refine ck h fun e1 q_e1 h=>nB mj ie I q_e1<|bN g9 ew mp I<|cu kQ I<|d (bt hI)<|bG<|ai<|aQ (k:=21) I fun hN1=>bq ?_;refine aE (jO (aw:=fun ls1 i1 out1 l1 c2=>(e1.Columns.drop i1=ls1)/\gq (eX c tl) ls1 out1=some R) (Of:=fun _ i1 out1 l1 c2=>[eg aC 3 l1 c2 out1]) (Gf:=fun _ i1 out1 l1 c2=>[(2,bb bc c),(5,oq l1 c2 out1),(10,lE tables),(11,jf tables),(12,aO (i:Int)),(21,fO (bO) e1.Columns),(22,jf e1.Columns),(23,aO (i1:Int))]) (fun i1 out1 l1 c2 h=>?_) (fun e2 tl1 ih1 i1 out1 l1 c2 h=>?_) e1.Columns 0 out l c1 ⟨I,h⟩) (be I)
  ·obtain⟨hx1,h⟩:=h
   refine dr hx1 I<|db A hN I ?_;exact aM (aE (ih (i+1) out1 l1 c2 ⟨cW A,h⟩) (be I))
  ·obtain⟨hx1,h⟩:=h
   refine dq hx1 I<|aF<|ai<|aU<|eM kQ fG I (dv hx1)<|aT fG i7 I fun b=>bX fG al I<|aP 9 I<|bG<|aL<|a8 I<|pb uz mC I ?_;refine cN cF I<|d (aW (r:=aC) (ys:=[e2.Kind]) (xs:=[.tmp 29]) eu cF I I I I I ⟨(Y I),Q⟩)<|ck h fun out2 q_out2 h=>dH cF I I I I eu I I (Y I) (Y I) q_out2 fun l2 c3=>gJ I<|bu<|db hx1 hN1 I ?_;exact aM (aE (ih1 (i1+1) out2 l2 c3 ⟨cW hx1,h⟩) (be I))
def HW c tables{R}(h:lq c tables=some R):cw aH 17 [V bc c,lE tables] (tT [lE R.1,aO R.2]):=by
 refine cX Tryz.func17 I<|aU<|cY I<|ov aC<|bJ<|bG<|aZ<|cN lB I<|eD h NJ (HS _) (dc I) fun r h=>bk I<|aG I<|ic I<|cE h I (fun h=>?_) (fun h=>?_)
 ·exact aG I<|ov aC<|aR I<|ah<|so h▸dO I I I
 ·refine ip<|aZ<|a8 I<|d ((show bE _ _ _ _ ((eV aH IH tJ (fun(x:Int)=>(lp c) x)))from jx (cts:=[bb bc c]) (caps:=[.tmp 2]) PQ ⟨(Y I),Q⟩ (fun x y h=>L2 _ _ h)))<|eD h PR (L3 _ _) (dc I) fun r1 h=>cE h I (fun h=>?_) (fun h=>?_)
  ·exact aU<|ov aC<|ev<|ah<|so h▸dO I I I
  ·exact ip<|aU<|cN lB I<|a8 I<|xk h PP (Jf _ _) (dc I) fun r2 h l c1=>gJ I<|ev<|nt<|fN 4 I<|fN 17 I<|je 4 I<|aI<|so h▸dO I I I

end Go.Proofs.YthbdkceckjihgaaGreatDoor

