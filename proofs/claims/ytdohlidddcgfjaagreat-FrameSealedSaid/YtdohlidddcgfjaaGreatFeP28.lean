/- bO of this claim: P28. -/
import Derived.Test.YtdohlidddcgfjaaGreatFeT
import Derived.Test.YtdohlidddcgfjaaGreatFeP27
set_option linter.all false
namespace Go.Proofs.YtdohlidddcgfjaaGreat
open Go
set_option maxRecDepth 100000

def WW b{R}(h:m7 b=some R):dV a8 9 [eg ((rI .u8)) b] (gA R):=by
 refine fb Tryz.func9 J<|be<|bL<|bt<|bp<|iI h aac VI trivial fun r h=>Q (gg (D J))<|di h J (fun h=>?_) (fun h=>?_)
 ·exact be<|bL<|co<|aF<|so h▸aW J J
 ·refine jv<|bp<|aQ J<|cM hM J<|Q (jW (D J) hI)<|di h J (fun h=>?_) (fun h=>?_)
  ·exact be<|bL<|co<|aF<|so h▸aW J J
  ·refine jv<|be<|pq (r:=(rI .u8)) (ys:=ra) (xs:=[]) hM rZ J J J J J trivial J fun l c=>aQ J<|bK h fun l1 q_l1 h=>c9 rZ J J J J hM J J (D J) (D J) q_l1 fun l2 c1=>qB<|md 14 J<|sN h VT (GD _) ⟨(rb (D J)),d⟩ fun r1 h l3 c2=>aX J<|ay J<|qB<|md 15 J<|md 3 J<|md 17 J<|iI h aab (Vc _) ⟨(rb (D J)),d⟩ fun r2 h=>?_;refine aQ J<|eh J J<|eh J J<|bz iZ py J fun b1=>bu iZ ax J<|bh 4 J<|aX J<|bp<|aQ J<|oj J<|di h J (fun h=>?_) (fun h=>?_)
   ·exact ay J<|bP J<|aQ J<|ai J (cq u3 qZ J J)<|ai J (ck bW J J)<|ai J (lr J)<|cU J<|bk J<|aF<|aY<|aY<|so h▸aW J J
   ·refine jv<|be<|fP iZ J<|iI h YI (Qq _) (ez J) fun r3 h=>aQ J<|eh J J<|eh J J<|gB J<|aX J<|ay J<|bP J<|aQ J<|bK h fun t q_t h=>ai J (dd J)<|ai J (dd J) ?_
    obtain⟨r4,h1t,h0t⟩:=og q_t
    have q_r4g:=fun W=>(h1t W).1
    exact ai J (fun V=>dx VU (KL _ _ (q_r4g V)) ⟨(rb (bJ J V)),(bJ J V),d⟩)<|Q (cR (D J) (fun W=>(bJ J W)) (fun W=>(h1t W).2) h0t)<|bk J<|aY<|aY<|so h▸aW J J

end Go.Proofs.YtdohlidddcgfjaaGreat

