/- The law's opening call comes to true. -/
import Derived.Test.YtchjhcgkfglgiaaF
import Derived.KernelRfl
namespace Go.Proofs.Ytchjhcgkfglgiaa
open Go
theorem wakes_true : law05_wakes = some true := by kernel_rfl
end Go.Proofs.Ytchjhcgkfglgiaa
