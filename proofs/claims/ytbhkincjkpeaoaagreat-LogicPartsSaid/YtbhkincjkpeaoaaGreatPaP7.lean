/- Facts of this claim: P7. -/
import Derived.Test.YtbhkincjkpeaoaaGreatPaT
import Derived.Test.YtbhkincjkpeaoaaGreatPaP6
namespace Go.Proofs.YtbhkincjkpeaoaaGreat
open Go

end Go.Proofs.YtbhkincjkpeaoaaGreat

