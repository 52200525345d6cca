/- Facts of this claim: R10. -/
import Derived.Test.YtdhledkpgaeoaaaDoorKgF
namespace Go.Proofs.YtdhledkpgaeoaaaDoor
open Go

def ref02_Right (v : DValue) : Option Bool :=
  if (v.Kind == (0 : Int)) then
  (some (decide (v = (⟨(0 : Int), (0 : Int), (0 : Int), []⟩ : DValue))))
  else
  (if (v.Kind == (1 : Int)) then
  (some (((v.U == (0 : Int)) && (v.S == ([]))) && ((v.N == (0 : Int)) || (v.N == (1 : Int)))))
  else
  (if (v.Kind == (2 : Int)) then
  (some ((v.U == (0 : Int)) && (v.S == ([]))))
  else
  (if (v.Kind == (3 : Int)) then
  (some (((v.N == (0 : Int)) && (v.U == (0 : Int))) && (decide ((v.S.length : Int) ≤ (40 : Int)))))
  else
  (some ((v.Kind == (4 : Int)) && (v.S == ([])))))))

def ref02_Plain (v : DValue) : Option Bool :=
  (ref02_Right v).bind fun r =>
  some (r && (v.Kind != (4 : Int)))

def ref10_counts (n : DENode) : Option Bool :=
  if (n.Tag == (1 : Int)) then
  ((ref02_Plain n.Value).bind fun r =>
  some (r && (n.Col == (0 : Int))))
  else
  (if (n.Tag == (2 : Int)) then
  (some (((decide (n.Value = (⟨(0 : Int), (0 : Int), (0 : Int), []⟩ : DValue))) && (decide ((0 : Int) ≤ n.Col))) && (decide (n.Col < (16 : Int)))))
  else
  (some ((decide (n.Value = (⟨(0 : Int), (0 : Int), (0 : Int), []⟩ : DValue))) && (n.Col == (0 : Int)))))

end Go.Proofs.YtdhledkpgaeoaaaDoor

