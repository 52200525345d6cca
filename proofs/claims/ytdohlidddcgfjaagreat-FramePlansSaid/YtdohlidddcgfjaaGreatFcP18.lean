/- cE of this claim: P18. -/
import Derived.Test.YtdohlidddcgfjaaGreatFcT
import Derived.Test.YtdohlidddcgfjaaGreatFcP17
set_option linter.all false
namespace Go.Proofs.YtdohlidddcgfjaaGreat
open Go
set_option maxRecDepth 100000

def XK p{R}(h:wT p=some R):cX bd 21 [tD gq p] (fM R):=by
 refine dK Tryz.func21 J<|d<|dl J<|bm<|bu<|aS<|aQ nI gV v8 J<|bI rA J<|s (fH (D J) hI)<|Q J<|aD J (bv nI gV J J)<|aD J (bq v8 J J)<|aD J (gp rA J)<|aD J (fun Y=>dD (bl J Y) hI)<|dG J<|bW h J (fun h=>?_) (fun h=>?_)
 ·exact d<|bm<|bM<|af<|so h▸aA J J
 ·refine fN<|aS<|ca<|bu<|ak<|bA ?_;refine aH (zl (aa:=fun n i=>m3 p n i=some R) (Of:=fun i=>[]) (Gf:=fun i=>[(1,ck gq p),(3,bH i)]) (fun i h=>nn h) (fun n ih i h=>?_) dk (0:Int) h) (aX J);refine cJ<|aS<|Q J<|aQ nI gV v8 J<|bI rA J<|jC J<|bW h J (fun h=>?_) (fun h=>?_)
  ·refine fN<|aP<|ak<|d<|aQ nI gV v8 J<|Q J<|bR h fun e q_e h=>dg rA nc J q_e<|bz nc nf J fun b=>bO nc aB J<|bj 4 J<|bu<|aS<|aQ vR oT bB J<|nP J<|Q J ?_;refine ae J (bv vR oT J J)<|ae J (bq bB J J)<|ae J (se J)<|cm J<|Q J<|aD J (bv vQ oS J J)<|aD J (bq bB J J)<|aD J (fun Y=>fH (bl J Y) hI)<|dG J<|Q J<|aD J (bv vQ oS J J)<|aD J (bq bB J J)<|aD J (fun Y=>dD (bl J Y) hI)<|dG J<|Q J<|aD J (bv sM lG J J)<|aD J (bq cu J J)<|aD J (gp df J)<|aD J (fun Y=>dD (bl J Y) hI)<|dG J<|bW h J (fun h=>?_) (fun h=>?_)
   ·exact d<|bm<|bM<|af<|cx<|af<|cx<|so h▸aA J J
   ·refine fN<|aS<|ca<|bu<|ak<|bA ?_;refine aH (zl (aa:=fun n1 k=>oF (m3 p n) i e n1 k=some R) (Of:=fun k=>[]) (Gf:=fun k=>[(1,ck gq p),(3,bH i),(4,ck cM e),(5,bH k)]) (fun k h=>nn h) (fun n1 ih1 k h=>?_) dk (0:Int) h) (aX J);refine cJ<|aS<|Q J<|aQ sM lG cu J<|bI df J<|jC J<|bW h J (fun h=>?_) (fun h=>?_)
    ·refine fN<|aP<|ak<|d<|aQ sM lG cu J<|Q J<|bR h fun e1 q_e1 h=>dg df bB J q_e1<|s (fH (D J) hI)<|Q J<|aD J (bv sM lG J J)<|aD J (bq cu J J)<|aD J (bX J)<|aD J (fun Y=>fJ df bB J (bl J Y) (bl J Y) q_e1)<|aD J (bq bB J J)<|aD J (fun Y=>dD (bl J Y) hI)<|dG J<|bW h J (fun h=>?_) (fun h=>?_)
     ·exact d<|bm<|bM<|cx<|af<|cx<|cx<|af<|cx<|so h▸aA J J
     ·refine bc<|al<|au<|aj<|Q J<|s (cW (D J) hI)<|d6 J<|aJ ?_;exact aU (aH (ih1 (IntKind.i64.wrap (k+(1:Int))) h) (aX J))
    ·refine cQ<|ap<|ap<|bL<|au<|d<|aQ sN mF qe J<|eE h acE (Xx _) (cy J) fun r h=>Q J<|dz J J<|dz J J<|d6 J<|aN J<|ax J<|s (dB (D J) hI)<|bu ?_;refine fy h J (fun h=>?_) (fun h=>?_)
     ·exact d<|bm<|bM<|cx<|af<|cx<|so h▸aA J J
     ·refine bc<|al<|au<|aj<|Q J<|s (cW (D J) hI)<|d6 J<|aJ ?_;exact aU (aH (ih (IntKind.i64.wrap (i+(1:Int))) h) (aX J))
  ·exact cQ<|ap<|ap<|bL<|au<|d<|bm<|bM<|so h▸aA J J

end Go.Proofs.YtdohlidddcgfjaaGreat

