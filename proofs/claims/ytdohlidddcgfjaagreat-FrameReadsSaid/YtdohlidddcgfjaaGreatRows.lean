/-
  No cell of these rows narrows 'for every input' (looked for: loops, veiled, ifaces, maps, wideKeys, modest, calm, conditions, laid).
  DERIVED. THE GIVEN ROWS OF THIS SEAT. 7 by the template 'for every input the law returns true; each argument reads behind the call as it read before'; 0 by the template 'total and deterministic' (their statements: YtdohlidddcgfjaaGreatTotals.lean).
  GIVEN WITH THE SEED: the statements are not yours to turn. If you find one false, say at which input.
  Laid BY PROGRAM, IN A SANDBOX (cutbox-rows.mjs): the forced cells as the released guide's own fill.sh prints them over the translation 414133264a5190c6… (all of the seat's roots in one cut). By AI agents, Wed Nov 11 2026. No macro, syntax, notation, axiom, sorry.
-/
import Derived.Test.YtdohlidddcgfjaaGreatChecked
import GoSem.Claim
import GoSem.ClaimJoined
import GoSem.ClaimMapViews
import Derived.JoinedTies
import Derived.KernelRfl
namespace Go.Proofs.YtdohlidddcgfjaaGreat
/- THE CELL 'sum', in the pinned program and in every row, IS THE sha256 OF THE DUMP (.gsa) THAT YtdohlidddcgfjaaGreatProg.lean LOADS. Nothing in Lean hashes anything: it is a label: what it is worth is what the hold of that sum in a sandbox is worth. -/
noncomputable def Tryz.pinned : Pinned := { name := "ytdohlidddcgfjaagreat", sum := "414133264a5190c666db24afaa2a5e5f29edb01622e43b40cef6d5b77dfabaf7", checked := Tryz.checked }
namespace Rows
def none {H : Type} : Left H := { results := [], args := [] }

/-- 'bowspritlaw23.FrameLays': WHATEVER THE INPUT: true; the input reads as it did. -/
def frameLaysSpec : ChangeSpec := { name := "frameLays", fn := fun _ => fun
  | [d1, d2] => { results := [.lit (.bool true)], args := [d1, d2] }
  | _ => none }
def frameLaysRow : OpenClaim := { program := "ytdohlidddcgfjaagreat", sum := "414133264a5190c666db24afaa2a5e5f29edb01622e43b40cef6d5b77dfabaf7", func := "bowsprit/bowspritlaw23.FrameLays", spec := "frameLays", unfollowed := true, recurses := true, apart := false }
def FrameLaysSaid : Prop := frameLaysRow.holds Tryz.pinned (OpenSpec.ofChange frameLaysSpec)

/-- ITS FALSE NEIGHBOUR: 'it returns false'. Refute it at one input. -/
def frameLaysWrong : ChangeSpec := { name := "frameLays", fn := fun _ => fun
  | [d1, d2] => { results := [.lit (.bool false)], args := [d1, d2] }
  | _ => none }
def FrameLaysWrongFalsely : Prop := frameLaysRow.holds Tryz.pinned (OpenSpec.ofChange frameLaysWrong)

/-- 'bowspritlaw23.FramePlans': WHATEVER THE INPUT: true; the input reads as it did. -/
def framePlansSpec : ChangeSpec := { name := "framePlans", fn := fun _ => fun
  | [d] => { results := [.lit (.bool true)], args := [d] }
  | _ => none }
def framePlansRow : OpenClaim := { program := "ytdohlidddcgfjaagreat", sum := "414133264a5190c666db24afaa2a5e5f29edb01622e43b40cef6d5b77dfabaf7", func := "bowsprit/bowspritlaw23.FramePlans", spec := "framePlans", unfollowed := true, recurses := true, apart := false }
def FramePlansSaid : Prop := framePlansRow.holds Tryz.pinned (OpenSpec.ofChange framePlansSpec)

/-- ITS FALSE NEIGHBOUR: 'it returns false'. Refute it at one input. -/
def framePlansWrong : ChangeSpec := { name := "framePlans", fn := fun _ => fun
  | [d] => { results := [.lit (.bool false)], args := [d] }
  | _ => none }
def FramePlansWrongFalsely : Prop := framePlansRow.holds Tryz.pinned (OpenSpec.ofChange framePlansWrong)

/-- 'bowspritlaw23.FramePlanBytes': WHATEVER THE INPUT: true; the input reads as it did. -/
def framePlanBytesSpec : ChangeSpec := { name := "framePlanBytes", fn := fun _ => fun
  | [d] => { results := [.lit (.bool true)], args := [d] }
  | _ => none }
def framePlanBytesRow : OpenClaim := { program := "ytdohlidddcgfjaagreat", sum := "414133264a5190c666db24afaa2a5e5f29edb01622e43b40cef6d5b77dfabaf7", func := "bowsprit/bowspritlaw23.FramePlanBytes", spec := "framePlanBytes", unfollowed := true, recurses := true, apart := false }
def FramePlanBytesSaid : Prop := framePlanBytesRow.holds Tryz.pinned (OpenSpec.ofChange framePlanBytesSpec)

/-- ITS FALSE NEIGHBOUR: 'it returns false'. Refute it at one input. -/
def framePlanBytesWrong : ChangeSpec := { name := "framePlanBytes", fn := fun _ => fun
  | [d] => { results := [.lit (.bool false)], args := [d] }
  | _ => none }
def FramePlanBytesWrongFalsely : Prop := framePlanBytesRow.holds Tryz.pinned (OpenSpec.ofChange framePlanBytesWrong)

/-- 'bowspritlaw23.FrameReads': WHATEVER THE INPUT: true; the input reads as it did. -/
def frameReadsSpec : ChangeSpec := { name := "frameReads", fn := fun _ => fun
  | [d] => { results := [.lit (.bool true)], args := [d] }
  | _ => none }
def frameReadsRow : OpenClaim := { program := "ytdohlidddcgfjaagreat", sum := "414133264a5190c666db24afaa2a5e5f29edb01622e43b40cef6d5b77dfabaf7", func := "bowsprit/bowspritlaw23.FrameReads", spec := "frameReads", unfollowed := true, recurses := true, apart := false }
def FrameReadsSaid : Prop := frameReadsRow.holds Tryz.pinned (OpenSpec.ofChange frameReadsSpec)

/-- ITS FALSE NEIGHBOUR: 'it returns false'. Refute it at one input. -/
def frameReadsWrong : ChangeSpec := { name := "frameReads", fn := fun _ => fun
  | [d] => { results := [.lit (.bool false)], args := [d] }
  | _ => none }
def FrameReadsWrongFalsely : Prop := frameReadsRow.holds Tryz.pinned (OpenSpec.ofChange frameReadsWrong)

/-- 'bowspritlaw23.FrameBack': WHATEVER THE INPUT: true; the input reads as it did. -/
def frameBackSpec : ChangeSpec := { name := "frameBack", fn := fun _ => fun
  | [d1, d2] => { results := [.lit (.bool true)], args := [d1, d2] }
  | _ => none }
def frameBackRow : OpenClaim := { program := "ytdohlidddcgfjaagreat", sum := "414133264a5190c666db24afaa2a5e5f29edb01622e43b40cef6d5b77dfabaf7", func := "bowsprit/bowspritlaw23.FrameBack", spec := "frameBack", unfollowed := true, recurses := true, apart := false }
def FrameBackSaid : Prop := frameBackRow.holds Tryz.pinned (OpenSpec.ofChange frameBackSpec)

/-- ITS FALSE NEIGHBOUR: 'it returns false'. Refute it at one input. -/
def frameBackWrong : ChangeSpec := { name := "frameBack", fn := fun _ => fun
  | [d1, d2] => { results := [.lit (.bool false)], args := [d1, d2] }
  | _ => none }
def FrameBackWrongFalsely : Prop := frameBackRow.holds Tryz.pinned (OpenSpec.ofChange frameBackWrong)

/-- 'bowspritlaw23.FrameSeals': WHATEVER THE INPUT: true; the input reads as it did. -/
def frameSealsSpec : ChangeSpec := { name := "frameSeals", fn := fun _ => fun
  | [d1, d2, d3] => { results := [.lit (.bool true)], args := [d1, d2, d3] }
  | _ => none }
def frameSealsRow : OpenClaim := { program := "ytdohlidddcgfjaagreat", sum := "414133264a5190c666db24afaa2a5e5f29edb01622e43b40cef6d5b77dfabaf7", func := "bowsprit/bowspritlaw23.FrameSeals", spec := "frameSeals", unfollowed := true, recurses := true, apart := false }
def FrameSealsSaid : Prop := frameSealsRow.holds Tryz.pinned (OpenSpec.ofChange frameSealsSpec)

/-- ITS FALSE NEIGHBOUR: 'it returns false'. Refute it at one input. -/
def frameSealsWrong : ChangeSpec := { name := "frameSeals", fn := fun _ => fun
  | [d1, d2, d3] => { results := [.lit (.bool false)], args := [d1, d2, d3] }
  | _ => none }
def FrameSealsWrongFalsely : Prop := frameSealsRow.holds Tryz.pinned (OpenSpec.ofChange frameSealsWrong)

/-- 'bowspritlaw23.FrameSealed': WHATEVER THE INPUT: true; the input reads as it did. -/
def frameSealedSpec : ChangeSpec := { name := "frameSealed", fn := fun _ => fun
  | [d] => { results := [.lit (.bool true)], args := [d] }
  | _ => none }
def frameSealedRow : OpenClaim := { program := "ytdohlidddcgfjaagreat", sum := "414133264a5190c666db24afaa2a5e5f29edb01622e43b40cef6d5b77dfabaf7", func := "bowsprit/bowspritlaw23.FrameSealed", spec := "frameSealed", unfollowed := true, recurses := true, apart := false }
def FrameSealedSaid : Prop := frameSealedRow.holds Tryz.pinned (OpenSpec.ofChange frameSealedSpec)

/-- ITS FALSE NEIGHBOUR: 'it returns false'. Refute it at one input. -/
def frameSealedWrong : ChangeSpec := { name := "frameSealed", fn := fun _ => fun
  | [d] => { results := [.lit (.bool false)], args := [d] }
  | _ => none }
def FrameSealedWrongFalsely : Prop := frameSealedRow.holds Tryz.pinned (OpenSpec.ofChange frameSealedWrong)

/- THE SECOND FORM. 'bulk': how many values and letters a reading holds, each counted each time it is reached (what is shared counts as often as it is met; a slice's spare places count too). A statement '..UptoSaid' is the law's where the arguments, and the package variables that the reading takes, are together of bulk at most 1048576: NARROWER than '..Said'. Prove '..Said' where nothing that the law and all that it calls make is longer than what came in: it says more and counts as full. Else prove '..UptoSaid'. A law counts once. -/
mutual
def uptoBulk {H : Type} : DataW H → Nat
  | .lit (.string bytes) => bytes.length + 1
  | .lit _ => 1
  | .nil => 1
  | .ptr d => uptoBulk d + 1
  | .slice elems spare => uptoBulkAll elems + uptoBulkAll spare + 1
  | .agg parts => uptoBulkAll parts + 1
  | .iface _ d => uptoBulk d + 1
  | .map entries => uptoBulkEntries entries + 1
  | .held _ => 1
def uptoBulkAll {H : Type} : List (DataW H) → Nat
  | [] => 0
  | d :: r => uptoBulk d + uptoBulkAll r
def uptoBulkEntries {H : Type} : List (Lit × DataW H) → Nat
  | [] => 0
  | x :: r => uptoBulkEntry x + uptoBulkEntries r
def uptoBulkEntry {H : Type} : Lit × DataW H → Nat
  | (.string bytes, d) => bytes.length + uptoBulk d + 1
  | (_, d) => uptoBulk d + 1
 end
def uptoSmall : (H : Type) → List (DataW H) → Bool := fun _ ds => decide (uptoBulkAll ds ≤ 1048576)
def OpenSpec.upto (s : _root_.Go.ChangeSpec) : _root_.Go.OpenSpec := { _root_.Go.OpenSpec.ofChange s with cond := some uptoSmall }

/-- 'bowspritlaw23.FrameLays', WHERE WHAT IT READS IS OF BULK AT MOST 1048576: true; the input reads as it did. -/
def frameLaysUptoRow : OpenClaim := { program := "ytdohlidddcgfjaagreat", sum := "414133264a5190c666db24afaa2a5e5f29edb01622e43b40cef6d5b77dfabaf7", func := "bowsprit/bowspritlaw23.FrameLays", spec := "frameLays", unfollowed := true, recurses := true, apart := false, narrowed := true }
def FrameLaysUptoSaid : Prop := frameLaysUptoRow.holds Tryz.pinned (OpenSpec.upto frameLaysSpec)

/-- 'bowspritlaw23.FramePlans', WHERE WHAT IT READS IS OF BULK AT MOST 1048576: true; the input reads as it did. -/
def framePlansUptoRow : OpenClaim := { program := "ytdohlidddcgfjaagreat", sum := "414133264a5190c666db24afaa2a5e5f29edb01622e43b40cef6d5b77dfabaf7", func := "bowsprit/bowspritlaw23.FramePlans", spec := "framePlans", unfollowed := true, recurses := true, apart := false, narrowed := true }
def FramePlansUptoSaid : Prop := framePlansUptoRow.holds Tryz.pinned (OpenSpec.upto framePlansSpec)

/-- 'bowspritlaw23.FramePlanBytes', WHERE WHAT IT READS IS OF BULK AT MOST 1048576: true; the input reads as it did. -/
def framePlanBytesUptoRow : OpenClaim := { program := "ytdohlidddcgfjaagreat", sum := "414133264a5190c666db24afaa2a5e5f29edb01622e43b40cef6d5b77dfabaf7", func := "bowsprit/bowspritlaw23.FramePlanBytes", spec := "framePlanBytes", unfollowed := true, recurses := true, apart := false, narrowed := true }
def FramePlanBytesUptoSaid : Prop := framePlanBytesUptoRow.holds Tryz.pinned (OpenSpec.upto framePlanBytesSpec)

/-- 'bowspritlaw23.FrameReads', WHERE WHAT IT READS IS OF BULK AT MOST 1048576: true; the input reads as it did. -/
def frameReadsUptoRow : OpenClaim := { program := "ytdohlidddcgfjaagreat", sum := "414133264a5190c666db24afaa2a5e5f29edb01622e43b40cef6d5b77dfabaf7", func := "bowsprit/bowspritlaw23.FrameReads", spec := "frameReads", unfollowed := true, recurses := true, apart := false, narrowed := true }
def FrameReadsUptoSaid : Prop := frameReadsUptoRow.holds Tryz.pinned (OpenSpec.upto frameReadsSpec)

/-- 'bowspritlaw23.FrameBack', WHERE WHAT IT READS IS OF BULK AT MOST 1048576: true; the input reads as it did. -/
def frameBackUptoRow : OpenClaim := { program := "ytdohlidddcgfjaagreat", sum := "414133264a5190c666db24afaa2a5e5f29edb01622e43b40cef6d5b77dfabaf7", func := "bowsprit/bowspritlaw23.FrameBack", spec := "frameBack", unfollowed := true, recurses := true, apart := false, narrowed := true }
def FrameBackUptoSaid : Prop := frameBackUptoRow.holds Tryz.pinned (OpenSpec.upto frameBackSpec)

/-- 'bowspritlaw23.FrameSeals', WHERE WHAT IT READS IS OF BULK AT MOST 1048576: true; the input reads as it did. -/
def frameSealsUptoRow : OpenClaim := { program := "ytdohlidddcgfjaagreat", sum := "414133264a5190c666db24afaa2a5e5f29edb01622e43b40cef6d5b77dfabaf7", func := "bowsprit/bowspritlaw23.FrameSeals", spec := "frameSeals", unfollowed := true, recurses := true, apart := false, narrowed := true }
def FrameSealsUptoSaid : Prop := frameSealsUptoRow.holds Tryz.pinned (OpenSpec.upto frameSealsSpec)

/-- 'bowspritlaw23.FrameSealed', WHERE WHAT IT READS IS OF BULK AT MOST 1048576: true; the input reads as it did. -/
def frameSealedUptoRow : OpenClaim := { program := "ytdohlidddcgfjaagreat", sum := "414133264a5190c666db24afaa2a5e5f29edb01622e43b40cef6d5b77dfabaf7", func := "bowsprit/bowspritlaw23.FrameSealed", spec := "frameSealed", unfollowed := true, recurses := true, apart := false, narrowed := true }
def FrameSealedUptoSaid : Prop := frameSealedUptoRow.holds Tryz.pinned (OpenSpec.upto frameSealedSpec)

end Rows
end Go.Proofs.YtdohlidddcgfjaaGreat
