/- bT of this claim: P25. -/
import Derived.Test.YtdohlidddcgfjaaGreatFdT
import Derived.Test.YtdohlidddcgfjaaGreatFdP24
set_option linter.all false
namespace Go.Proofs.YtdohlidddcgfjaaGreat
open Go
set_option maxRecDepth 100000

def X4 b{R}(h:qM b=some R):dJ aY 25 [d8 ((rI .u8)) b] (tT [tD fz R.1,bC R.2]):=by
 refine eX Tryz.func25 J<|a8<|bw iz qt J fun b1=>cM<|br<|aB J<|iw h acK (XY _) (ea J) fun r h=>aS J<|ek J J<|ek J J<|hE J<|aZ J<|bm<|aS J<|nW J ?_;refine cZ h J (fun h=>?_) (fun h=>?_)
 ·exact a8<|s (ez iz Kx qt J)<|aS J<|bv iz ax J<|bq J<|av<|fG 2 J<|so h▸Dz J J ⟨th iz J J J,gJ J,aM⟩
 ·refine jg<|aB J<|bM h fun r1 q_r1 h=>aL (an (xs:=[.tmp 17]) (ts:=[d8 ((rI .u8)) r.1]) [] _ J acN (aam _ q_r1) ⟨(D J),aM⟩ (fun _=>J)) J fun i=>?_;refine(show RG _ _ _ _ [_,_,_] ((18,Z (M (i.h 0).2 0))::_)from ?_);refine aZ J<|aB J<|bM h fun r2 q_r2 h=>aL (EffOK.fr1 (EffOK.fr1 (an (xs:=[.tmp 19]) (ts:=[Z (M (i.h 0).2 0)]) [Q (rH aj [(0,M (i.h 1).2 0)]) 146 (i.h 0).2 r1.1,Q cz 183 (i.h 1).2 r1.2] _ J acJ (aaj _ _ _ _ q_r2) ⟨(D J),aM⟩ (fun _=>J)))) J fun i1=>?_;refine(show RG _ _ _ _ [_,_,_] ((20,tD fz r2.1)::_)from ?_);refine bw iz qt J fun b2=>bv iz ax J<|bf 7 J<|br<|bm<|aS J<|bM h fun r3 q_r3 h=>aL (EffOK.fr1 (EffOK.fr1 (an (xs:=[.tmp 21]) (ts:=[Z (M (i.h 0).2 0)]) [Q (rH aj [(0,M (i.h 1).2 0)]) 146 (i.h 0).2 r2.2.1,Q cz 183 (i.h 1).2 r2.2.2] _ J acL (aak _ _ _ _ q_r3) ⟨(D J),aM⟩ (fun _=>J)))) J fun i2=>?_;refine(show RG _ _ _ _ [_,_,_] ((22,gI r3)::_)from ?_);refine s (gG (D J))<|aS J<|bM h fun t q_t h=>bz J (fun H=>BA iz J J) ?_
  obtain⟨r4,h1t,h0t⟩:=og q_t
  have q_r4g:=fun K=>(h1t K).1
  refine bz J (fun H=>db aaB (SF _ (q_r4g H)) ⟨(bL J H),aM⟩)<|bz J (y0 J)<|s (m0 (D J) (fun K=>(bL J (vT K))) (fun K=>(h1t K).2) h0t)<|aS J<|bz J (du J)<|bz J (ma iY J)<|bz J (fun H=>ge (bL J H) hI)<|jW J<|cZ h J (fun h=>?_) (fun h=>?_)
  ·exact a8<|s (ez iz Kx qt J)<|cF<|bv iz ax J<|gQ<|av<|fG 2 J<|ba<|ba<|so h▸Dz J J ⟨th iz J J J,gJ J,aM⟩
  ·exact jg<|a8<|fi iz J<|cF<|bv iz ax J<|gQ<|fG 2 J<|ba<|ba<|so h▸Dz J J ⟨th iz J J J,gJ J,aM⟩

end Go.Proofs.YtdohlidddcgfjaaGreat

