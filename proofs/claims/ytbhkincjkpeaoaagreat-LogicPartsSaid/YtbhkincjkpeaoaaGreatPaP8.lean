/- Facts of this claim: P8. -/
import Derived.Test.YtbhkincjkpeaoaaGreatPaT
import Derived.Test.YtbhkincjkpeaoaaGreatPaP7
namespace Go.Proofs.YtbhkincjkpeaoaaGreat
open Go

end Go.Proofs.YtbhkincjkpeaoaaGreat

