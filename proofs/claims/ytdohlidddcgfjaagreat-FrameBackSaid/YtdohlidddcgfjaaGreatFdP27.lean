/- bT of this claim: P27. -/
import Derived.Test.YtdohlidddcgfjaaGreatFdT
import Derived.Test.YtdohlidddcgfjaaGreatFdP26
set_option linter.all false
namespace Go.Proofs.YtdohlidddcgfjaaGreat
open Go
set_option maxRecDepth 100000

def aah m o{R}(h:pH m o=some R):dJ aY 7 [tD fz m,tD fz o] (gI R):=by
 refine eX Tryz.func7 J<|a8<|eZ J<|eZ J<|bA<|br<|bm<|iw h acX YA trivial fun r h=>s (gG (D J))<|cZ h J (fun h=>?_) (fun h=>?_)
 ·exact a8<|bA<|bS<|av<|so h▸aN J J
 ·refine jg<|bm<|fi iz J<|iw h abX (SU _) (ea J) fun r1 h=>aS J<|bM h fun t q_t h=>bz J (fun H=>BA iz J J) ?_
  obtain⟨r2,h1t,h0t⟩:=og q_t
  have q_r2g:=fun K=>(h1t K).1
  refine bz J (fun H=>db abX (SU _ (q_r2g H)) ⟨(bL J H),aM⟩)<|s (m0 (D J) (fun K=>(bL J (vT K))) (fun K=>(h1t K).2) h0t)<|cZ h J (fun h=>?_) (fun h=>?_)
  ·exact a8<|bA<|bS<|av<|so h▸aN J J
  ·refine jg<|a8<|fi iz J<|iw h YM (MJ _) (ea J) fun r3 h=>aS J<|ek J J<|ek J J<|hE J<|aZ J<|bm<|aS J<|nW J<|cZ h J (fun h=>?_) (fun h=>?_)
   ·exact aB J<|cw iY J<|bW J<|bq J<|av<|so h▸aN J J
   ·refine jg<|aB J<|iw h acV (X4 _) (ea J) fun r4 h=>aS J<|ek J J<|ek J J<|bw iz qt J fun b=>bv iz ax J<|bf 7 J<|aZ J<|bm<|aS J<|nW J<|aS J<|bM h fun t1 q_t1 h=>bz J (fun H=>BA iz J J) ?_;refine bz J (fun H=>BA iz J J) ?_
    obtain⟨r5,h1t1,h0t1⟩:=og q_t1
    have q_r5g:=fun K=>(h1t1 K).1
    refine bz J (fun H=>db Qp (B8 _ _ (q_r5g H)) ⟨(bL J H),(bL J H),aM⟩)<|bz J (y0 J)<|s (m0 (D J) (fun K=>(bL J (vT K))) (fun K=>(h1t1 K).2) h0t1)<|cZ h J (fun h=>?_) (fun h=>?_)
    ·exact a8<|bA<|bS<|av<|so h▸aN J J
    ·refine jg<|a8<|fi iz J<|iw h YM (MJ _) (ea J) fun r6 h=>aS J<|ek J J<|ek J J<|hE J<|aZ J<|aT<|bM h fun t2 q_t2 h=>?_
     obtain⟨r7,h1t2,h0t2⟩:=og q_t2
     have q_r7g:=fun K=>(h1t2 K).1
     obtain⟨r8,h1t2⟩:=og2 (fun K=>(h1t2 K).2)
     have q_r8g:=fun K=>(h1t2 K).1
     refine kM (ts:=[_,_,_,_,_,_,_,_,_,_,_,_]) mixed J J
      ⟨iy J J,
      ⟨gk 45 0 J J (zni J),
      ⟨gk 46 1 J J (lQ J),
      ⟨Ax 5 47 2 J J J (kK J J J J (fun H=>lQ J)),
      ⟨Ax 8 47 2 J J J (kK J J J J (fun H=>lQ J)),
      ⟨Gd 48 3 49 4 47 2 J J J J (kK J J J J (fun H=>db YL (MH _ _ (q_r7g H)) ⟨(bL J H),(bL J H),aM⟩)),
      ⟨Ax 2 47 2 J J J (kK J J J J (fun H=>BA iz J J)),
      ⟨Ax 3 47 2 J J J (kK J J J J (fun H=>BA iz J J)),
      ⟨Gd 51 6 52 7 47 2 J J J J (kK J J J J (fun H=>db Qp (B8 _ _ (q_r8g H)) ⟨(bL J H),(bL J H),aM⟩)),
      ⟨Gd 50 5 53 8 47 2 J J J J (kK J J J J (fun H=>Dm Ga (bL J H) (bL J H))),
      ⟨kx 47 2 54 9 J J J (m0 (D J) (fun K=>(bL J (vT K))) (fun K=>(h1t2 K).2) h0t2),
      ⟨gk 55 10 J J (Jo J),
      aM⟩⟩⟩⟩⟩⟩⟩⟩⟩⟩⟩⟩ ?_
     exact aG<|qU<|so h▸aN J J

end Go.Proofs.YtdohlidddcgfjaaGreat

