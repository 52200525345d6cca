/- bS of this claim: P11. -/
import Derived.Test.YtdohlidddcgfjaaGreatFfT
import Derived.Test.YtdohlidddcgfjaaGreatFfP10
set_option linter.all false
namespace Go.Proofs.YtdohlidddcgfjaaGreat
open Go
set_option maxRecDepth 100000

def Zt m{R}(h:tW m=some R):dR aY 11 [tD fM m] (gR R):=by
 refine fc Tryz.func11 J<|bc<|fx J<|bz<|br<|bc<|bG Ah yf Dl J<|iq h adK (Y8 _) (ez J) fun r h=>aR J<|bL h fun t q_t h=>bD J (ci wA vF J J)<|bD J (fun K=>gK oT J fz J (bM J K))<|bD J (fun K=>gK wC J oR J (bM J K))<|bD J (ce Ij J J) ?_
 obtain⟨r1,h1t,h0t⟩:=og q_t
 have q_r1g:=fun H=>(h1t H).1
 exact bD J (fun K=>dz adJ (YS _ (q_r1g K)) ⟨(bM J K),aM⟩)<|s (ru (D J) (fun H=>(bM J (zb H))) (fun H=>(h1t H).2) h0t)<|bq J<|so h▸aN J J

end Go.Proofs.YtdohlidddcgfjaaGreat

