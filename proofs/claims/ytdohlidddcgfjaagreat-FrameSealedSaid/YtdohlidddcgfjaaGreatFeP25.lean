/- bO of this claim: P25. -/
import Derived.Test.YtdohlidddcgfjaaGreatFeT
import Derived.Test.YtdohlidddcgfjaaGreatFeP24
set_option linter.all false
namespace Go.Proofs.YtdohlidddcgfjaaGreat
open Go
set_option maxRecDepth 100000

def Vc b{R}(h:ru b=some R):dV a8 25 [eg ((rI .u8)) b] (tT [tD fQ R.1,bw R.2]):=by
 refine fb Tryz.func25 J<|be<|bz iZ py J fun b1=>cJ<|bt<|ay J<|iI h Z2 (U8 _) (ez J) fun r h=>aQ J<|eh J J<|eh J J<|gB J<|aX J<|bp<|aQ J<|oj J ?_;refine di h J (fun h=>?_) (fun h=>?_)
 ·exact be<|Q (ec iZ IL py J)<|aQ J<|bu iZ ax J<|bk J<|aF<|eY 2 J<|so h▸BZ J J ⟨se iZ J J J,gi J,d⟩
 ·refine jv<|ay J<|bK h fun r1 q_r1 h=>aK (an (xs:=[.tmp 17]) (ts:=[eg ((rI .u8)) r.1]) [] _ J Z5 (Xf _ q_r1) ⟨(D J),d⟩ (fun _=>J)) J fun i=>?_;refine(show RG _ _ _ _ [_,_,_] ((18,K (M (i.h 0).2 0))::_)from ?_);refine aX J<|ay J<|bK h fun r2 q_r2 h=>aK (EffOK.fr1 (EffOK.fr1 (an (xs:=[.tmp 19]) (ts:=[K (M (i.h 0).2 0)]) [Z (rH aj [(0,M (i.h 1).2 0)]) 146 (i.h 0).2 r1.1,Z cw 183 (i.h 1).2 r1.2] _ J Z1 (Xc _ _ _ _ q_r2) ⟨(D J),d⟩ (fun _=>J)))) J fun i1=>?_;refine(show RG _ _ _ _ [_,_,_] ((20,tD fQ r2.1)::_)from ?_);refine bz iZ py J fun b2=>bu iZ ax J<|bh 7 J<|bt<|bp<|aQ J<|bK h fun r3 q_r3 h=>aK (EffOK.fr1 (EffOK.fr1 (an (xs:=[.tmp 21]) (ts:=[K (M (i.h 0).2 0)]) [Z (rH aj [(0,M (i.h 1).2 0)]) 146 (i.h 0).2 r2.2.1,Z cw 183 (i.h 1).2 r2.2.2] _ J Z3 (Xd _ _ _ _ q_r3) ⟨(D J),d⟩ (fun _=>J)))) J fun i2=>?_;refine(show RG _ _ _ _ [_,_,_] ((22,gA r3)::_)from ?_);refine Q (gg (D J))<|aQ J<|bK h fun t q_t h=>b8 J (fun V=>Cf iZ J J) ?_
  obtain⟨r4,h1t,h0t⟩:=og q_t
  have q_r4g:=fun W=>(h1t W).1
  refine b8 J (fun V=>dx Xt (Qc _ (q_r4g V)) ⟨(bJ J V),d⟩)<|b8 J (y3 J)<|Q (ym (D J) (fun W=>(bJ J (Au W))) (fun W=>(h1t W).2) h0t)<|aQ J<|b8 J (dd J)<|b8 J (m2 hM J)<|b8 J (fun V=>jW (bJ J V) hI)<|kG J<|di h J (fun h=>?_) (fun h=>?_)
  ·exact be<|Q (ec iZ IL py J)<|cB<|bu iZ ax J<|gm<|aF<|eY 2 J<|aY<|aY<|so h▸BZ J J ⟨se iZ J J J,gi J,d⟩
  ·exact jv<|be<|fP iZ J<|cB<|bu iZ ax J<|gm<|eY 2 J<|aY<|aY<|so h▸BZ J J ⟨se iZ J J J,gi J,d⟩

end Go.Proofs.YtdohlidddcgfjaaGreat

