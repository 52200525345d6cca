/- Facts of this claim: MW. -/
import Derived.Test.YtdhledkpgaeoaaaDoorKgA0
import Derived.Test.YtdhledkpgaeoaaaDoorKgM17
namespace Go.Proofs.YtdhledkpgaeoaaaDoor
open Go

theorem own_r64 {v : DValue} (h : okDValue v) : r64 v.N := by
  have := h.2.1
  unfold inK at this
  exact ⟨this.1, this.2⟩
theorem exprOwn_holds (x : DExpr) (hx : okDExpr x) (a : List DValue) (ha : inL okDValue a) (b : List DValue) (hb : inL okDValue b) : law10_ExprOwn x a b = some true := exprOwn_true x a b (fun n hn => own_r64 (hx.2 n hn).2.2.2.2) (fun v hv => own_r64 (ha.2 v hv)) (fun v hv => own_r64 (hb.2 v hv))
end Go.Proofs.YtdhledkpgaeoaaaDoor

