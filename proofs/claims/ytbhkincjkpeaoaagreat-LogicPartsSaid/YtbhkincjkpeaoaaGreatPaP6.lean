/- Facts of this claim: P6. -/
import Derived.Test.YtbhkincjkpeaoaaGreatPaT
import Derived.Test.YtbhkincjkpeaoaaGreatPaP5
namespace Go.Proofs.YtbhkincjkpeaoaaGreat
open Go

end Go.Proofs.YtbhkincjkpeaoaaGreat

