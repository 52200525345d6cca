import Derived.Test.YtdohlidddcgfjaaGreatFgT
import Derived.Test.YtdohlidddcgfjaaGreatFgP8
set_option linter.all false
namespace Go.Proofs.YtdohlidddcgfjaaGreat
open Go
set_option maxRecDepth 100000
def adK(b:Nat)(ix:OI) w1 p{R}(h:xR w1 p=some R):bU bt 41 [Q (M b 0),tD jL p] (A5 b w1 ix) (fun _:OI=>tT []) (fun j=>A5 b R j):=by
 cases (show none=some R from h)
