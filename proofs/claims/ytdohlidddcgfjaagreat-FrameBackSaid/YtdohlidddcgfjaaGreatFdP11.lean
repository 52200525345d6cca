/- bT of this claim: P11. -/
import Derived.Test.YtdohlidddcgfjaaGreatFdT
import Derived.Test.YtdohlidddcgfjaaGreatFdP10
set_option linter.all false
namespace Go.Proofs.YtdohlidddcgfjaaGreat
open Go
set_option maxRecDepth 100000

def SU m{R}(h:rn m=some R):dJ aY 11 [tD fz m] (gI R):=by
 refine eX Tryz.func11 J<|a8<|eZ J<|bA<|br<|a8<|bG zU xP C3 J<|iw h acW (Ye _) (ea J) fun r h=>aS J<|bM h fun t q_t h=>bz J (cj wj vp J J)<|bz J (fun H=>gB oG J ft J (bL J H))<|bz J (fun H=>gB wl J oE J (bL J H))<|bz J (ce HM J J) ?_
 obtain⟨r1,h1t,h0t⟩:=og q_t
 have q_r1g:=fun K=>(h1t K).1
 exact bz J (fun H=>db acU (X3 _ (q_r1g H)) ⟨(bL J H),aM⟩)<|s (m0 (D J) (fun K=>(bL J (vT K))) (fun K=>(h1t K).2) h0t)<|bq J<|so h▸aN J J

end Go.Proofs.YtdohlidddcgfjaaGreat

