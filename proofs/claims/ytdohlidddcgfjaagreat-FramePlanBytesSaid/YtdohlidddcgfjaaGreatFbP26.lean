/- bR of this claim: P26. -/
import Derived.Test.YtdohlidddcgfjaaGreatFbT
import Derived.Test.YtdohlidddcgfjaaGreatFbP25
set_option linter.all false
namespace Go.Proofs.YtdohlidddcgfjaaGreat
open Go
set_option maxRecDepth 100000

def R8 p{R}(h:lj p=some R):dy aV 20 [tD kj p] (tT [ep ((rI .u8)) R.1,bA R.2]):=by
 refine eu Tryz.func20 J<|a8<|eG J<|kb ((rI .u8))<|cC<|bp<|bm<|eJ qa J<|iw h SN (IC _) (eb J) fun r h=>s (fH (D J))<|dd h J (fun h=>?_) (fun h=>?_)
 ·exact a8<|kb ((rI .u8))<|fZ<|aC<|so h▸ev J J J
 ·refine ji<|a8<|s (eh (r:=rH cr [(0,.slice none 0 0)]) (y:=Kj) Td TP (zH CW ⟨J,d⟩) (J))<|qx (D J) J fun b=>cz true (rI .u8) 5 ?_;refine(show RG _ _ _ _ [_,_] _ from ?_);refine aW J<|ay J<|eJ qa J<|bT h fun r1 q_r1 h=>aR (EffOK.fr1 (au (xs:=[.tmp 10,.tmp 11]) (ts:=[K (M b 0),tD kj p]) (ea b Kj N1) _ J Ul (Qp b N1 Kj _ q_r1) ⟨(D J),(D J),d⟩ (fun _=>J))) J fun i=>?_;refine(show RG _ _ _ _ [_,_] ((12,tT [])::_)from ?_);exact bp<|ay J<|s (aD (D J))<|aX 0 mj J<|s (lc ny J (.head _) (.tail _ (.head _)) (D J))<|gU J<|fZ<|aj<|fE 2 J<|ba<|ba<|so h▸ev J J J

def RZ b{R}(h:nd b=some R):dy aV 22 [ep ((rI .u8)) b] (tT [tD kj R.1,bA R.2]):=by
 refine eu Tryz.func22 J<|a8<|bw qa rq J fun b1=>cC<|bp<|ay J<|bT h fun r q_r h=>aR (au (xs:=[.tmp 6]) (ts:=[ep ((rI .u8)) b]) [] _ J WG (T9 _ q_r) ⟨(D J),d⟩ (fun _=>J)) J fun i=>?_;refine(show RG _ _ _ _ [_,_,_] ((7,K (M (i.h 0).2 0))::_)from ?_);refine aW J<|ay J<|bT h fun r1 q_r1 h=>aR (EffOK.fr1 (EffOK.fr1 (au (xs:=[.tmp 8]) (ts:=[K (M (i.h 0).2 0)]) [Z (rH al [(0,M (i.h 1).2 0)]) 146 (i.h 0).2 r.1,Z cJ 183 (i.h 1).2 r.2] _ J WF (T8 _ _ _ _ q_r1) ⟨(D J),d⟩ (fun _=>J)))) J fun i1=>?_;refine(show RG _ _ _ _ [_,_,_] ((9,tD kj r1.1)::_)from ?_);refine bw qa rq J fun b2=>bG qa aB J<|bg 5 J<|bp<|bm<|aO J<|bT h fun r2 q_r2 h=>aR (EffOK.fr1 (EffOK.fr1 (au (xs:=[.tmp 10]) (ts:=[K (M (i.h 0).2 0)]) [Z (rH al [(0,M (i.h 1).2 0)]) 146 (i.h 0).2 r1.2.1,Z cJ 183 (i.h 1).2 r1.2.2] _ J WE (T7 _ _ _ _ q_r2) ⟨(D J),d⟩ (fun _=>J)))) J fun i2=>?_;refine(show RG _ _ _ _ [_,_,_] ((11,gw r2)::_)from ?_);refine s (fH (D J))<|aO J<|bT h fun t q_t h=>bX J (fun X=>AJ qa J J) ?_
 obtain⟨r3,h1t,h0t⟩:=og q_t
 have q_r3g:=fun W=>(h1t W).1
 refine bX J (fun X=>c7 SN (IC _ (q_r3g X)) ⟨(bC J X),d⟩)<|bX J (xC J)<|s (wW (D J) (fun W=>(bC J (y3 W))) (fun W=>(h1t W).2) h0t)<|dd h J (fun h=>?_) (fun h=>?_)
 ·exact a8<|s (eh qa RA rq J)<|cL<|bG qa aB J<|fZ<|aC<|gg 2 J<|ba<|ba<|so h▸E9 J J ⟨sL qa J J J,kR J,d⟩
 ·exact ji<|a8<|eJ qa J<|cL<|bG qa aB J<|fZ<|gg 2 J<|ba<|ba<|so h▸E9 J J ⟨sL qa J J J,kR J,d⟩

end Go.Proofs.YtdohlidddcgfjaaGreat

