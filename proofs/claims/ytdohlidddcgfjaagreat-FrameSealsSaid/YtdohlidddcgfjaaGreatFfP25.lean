/- bS of this claim: P25. -/
import Derived.Test.YtdohlidddcgfjaaGreatFfT
import Derived.Test.YtdohlidddcgfjaaGreatFfP24
set_option linter.all false
namespace Go.Proofs.YtdohlidddcgfjaaGreat
open Go
set_option maxRecDepth 100000

def Ng b{R}(h:jN b=some R):dR aY 25 [eg ((rI .u8)) b] (tT [tD fM R.1,bB R.2]):=by
 refine fc Tryz.func25 J<|bc<|bv jc p7 J fun b1=>cO<|br<|aB J<|iq h adz (YN _) (ez J) fun r h=>aR J<|ei J J<|ei J J<|ia J<|a8 J<|bm<|aR J<|nU J ?_;refine c0 h J (fun h=>?_) (fun h=>?_)
 ·exact bc<|s (eG jc K9 p7 J)<|aR J<|bw jc aw J<|bq J<|au<|fJ 2 J<|so h▸DY J J ⟨tL jc J J J,gT J,aM⟩
 ·refine jf<|aB J<|bL h fun r1 q_r1 h=>aL (an (xs:=[.tmp 17]) (ts:=[eg ((rI .u8)) r.1]) [] _ J adC (abb _ q_r1) ⟨(D J),aM⟩ (fun _=>J)) J fun i=>?_;refine(show RG _ _ _ _ [_,_,_] ((18,Z (M (i.h 0).2 0))::_)from ?_);refine a8 J<|aB J<|bL h fun r2 q_r2 h=>aL (EffOK.fr1 (EffOK.fr1 (an (xs:=[.tmp 19]) (ts:=[Z (M (i.h 0).2 0)]) [Q (rH aj [(0,M (i.h 1).2 0)]) 146 (i.h 0).2 r1.1,Q cB 183 (i.h 1).2 r1.2] _ J ady (aa8 _ _ _ _ q_r2) ⟨(D J),aM⟩ (fun _=>J)))) J fun i1=>?_;refine(show RG _ _ _ _ [_,_,_] ((20,tD fM r2.1)::_)from ?_);refine bv jc p7 J fun b2=>bw jc aw J<|be 7 J<|br<|bm<|aR J<|bL h fun r3 q_r3 h=>aL (EffOK.fr1 (EffOK.fr1 (an (xs:=[.tmp 21]) (ts:=[Z (M (i.h 0).2 0)]) [Q (rH aj [(0,M (i.h 1).2 0)]) 146 (i.h 0).2 r2.2.1,Q cB 183 (i.h 1).2 r2.2.2] _ J adA (aa9 _ _ _ _ q_r3) ⟨(D J),aM⟩ (fun _=>J)))) J fun i2=>?_;refine(show RG _ _ _ _ [_,_,_] ((22,gR r3)::_)from ?_);refine s (gO (D J))<|aR J<|bL h fun t q_t h=>bD J (fun K=>Eb jc J J) ?_
  obtain⟨r4,h1t,h0t⟩:=og q_t
  have q_r4g:=fun H=>(h1t H).1
  refine bD J (fun K=>dz abp (Tm _ (q_r4g K)) ⟨(bM J K),aM⟩)<|bD J (AO J)<|s (ru (D J) (fun H=>(bM J (zb H))) (fun H=>(h1t H).2) h0t)<|aR J<|bD J (dy J)<|bD J (mf oh J)<|bD J (fun K=>gm (bM J K) hI)<|j5 J<|c0 h J (fun h=>?_) (fun h=>?_)
  ·exact bc<|s (eG jc K9 p7 J)<|cI<|bw jc aw J<|gZ<|au<|fJ 2 J<|aZ<|aZ<|so h▸DY J J ⟨tL jc J J J,gT J,aM⟩
  ·exact jf<|bc<|fL jc J<|cI<|bw jc aw J<|gZ<|fJ 2 J<|aZ<|aZ<|so h▸DY J J ⟨tL jc J J J,gT J,aM⟩

end Go.Proofs.YtdohlidddcgfjaaGreat

