/- bR of this claim: P27. -/
import Derived.Test.YtdohlidddcgfjaaGreatFbT
import Derived.Test.YtdohlidddcgfjaaGreatFbP26
set_option linter.all false
namespace Go.Proofs.YtdohlidddcgfjaaGreat
open Go
set_option maxRecDepth 100000

def T6 b{R}(h:kp b=some R):dy aV 5 [ep ((rI .u8)) b] (gw R):=by
 refine eu Tryz.func5 J<|a8<|bE<|bp<|bm<|iw h WP SB trivial fun r h=>s (fH (D J))<|dd h J (fun h=>?_) (fun h=>?_)
 ·exact a8<|bE<|cj<|aC<|so h▸aQ J J
 ·refine ji<|bm<|aO J<|cw gZ J<|s (jL (D J) hI)<|dd h J (fun h=>?_) (fun h=>?_)
  ·exact a8<|bE<|cj<|aC<|so h▸aQ J J
  ·refine ji<|a8<|ov (r:=(rI .u8)) (ys:=p9) (xs:=[]) gZ rk J J J J J trivial J fun l c=>aO J<|bT h fun l1 q_l1 h=>cU rk J J J J gZ J J (D J) (D J) q_l1 fun l2 c1=>vS<|s8 14 J<|iw h WM (RZ _) ⟨(sf (D J)),d⟩ fun r1 h=>aO J<|eF J J<|eF J J<|bw qa rq J fun b1=>bG qa aB J<|bg 3 J<|aW J<|bm ?_;refine aO J<|nW J<|dd h J (fun h=>?_) (fun h=>?_)
   ·exact ay J<|bM J<|aO J<|ah J (ca vh om J J)<|ah J (b7 FF J J)<|ah J (ml wD J)<|ah J (kL J)<|cB J<|bk J<|aC<|ba<|so h▸aQ J J
   ·refine ji<|a8<|eJ qa J<|iw h WN (R8 _) (eb J) fun r2 h=>aO J<|eF J J<|eF J J<|gU J<|aW J<|ay J<|bM J<|aO J<|bT h fun t q_t h=>ah J (cN J)<|ah J (cN J) ?_
    obtain⟨r3,h1t,h0t⟩:=og q_t
    have q_r3g:=fun W=>(h1t W).1
    exact ah J (fun X=>c7 Vf (Nh _ _ (q_r3g X)) ⟨(bC J X),(bC J X),d⟩)<|s (cA (D J) (fun W=>(bC J W)) (fun W=>(h1t W).2) h0t)<|bk J<|ba<|so h▸aQ J J

end Go.Proofs.YtdohlidddcgfjaaGreat

