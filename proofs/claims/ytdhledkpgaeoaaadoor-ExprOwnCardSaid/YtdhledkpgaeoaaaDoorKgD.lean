/- Facts of this claim: D. -/
import Derived.Test.YtdhledkpgaeoaaaDoorKgV3
namespace Go.Proofs.YtdhledkpgaeoaaaDoor
open Go

structure DValue where
  Kind : Int
  N : Int
  U : Int
  S : Str
  deriving DecidableEq, Inhabited
def rpDValue : Rp DValue := rMap (rPair (rI .i64) (rPair (rI .i64) (rPair (rI .u64) rS))) (fun x => (x.Kind, x.N, x.U, x.S))
theorem flDValue_0 : Fld rpDValue 0 (rI .i64) (fun x => x.Kind) := (fld_fst fld_one)
theorem sfDValue_0 : SFld rpDValue 0 (rI .i64) (fun x y => { x with Kind := y }) := sfld_map sfld_fst (fun _ _ => rfl)
theorem flDValue_1 : Fld rpDValue 1 (rI .i64) (fun x => x.N) := (fld_fst (fld_snd fld_one rfl))
theorem sfDValue_1 : SFld rpDValue 1 (rI .i64) (fun x y => { x with N := y }) := sfld_map (sfld_snd sfld_fst rfl) (fun _ _ => rfl)
theorem flDValue_2 : Fld rpDValue 2 (rI .u64) (fun x => x.U) := (fld_fst (fld_snd (fld_snd fld_one rfl) rfl))
theorem sfDValue_2 : SFld rpDValue 2 (rI .u64) (fun x y => { x with U := y }) := sfld_map (sfld_snd (sfld_snd sfld_fst rfl) rfl) (fun _ _ => rfl)
theorem flDValue_3 : Fld rpDValue 3 rS (fun x => x.S) := (fld_snd (fld_snd (fld_snd fld_one rfl) rfl) rfl)
theorem sfDValue_3 : SFld rpDValue 3 rS (fun x y => { x with S := y }) := sfld_map (sfld_snd (sfld_snd (sfld_snd sfld_whole rfl) rfl) rfl) (fun _ _ => rfl)
theorem zrDValue : ∀ S, rpDValue.rc S [.int .i64 0, .int .i64 0, .int .u64 0, .string ⟨#[]⟩] ((⟨(0 : Int), (0 : Int), (0 : Int), []⟩ : DValue)) := fun _ => ⟨[.int .i64 0], [.int .i64 0, .int .u64 0, .string ⟨#[]⟩], rfl, rfl, ⟨[.int .i64 0], [.int .u64 0, .string ⟨#[]⟩], rfl, rfl, ⟨[.int .u64 0], [.string ⟨#[]⟩], rfl, rfl, rfl⟩⟩⟩
structure DENode where
  Tag : Int
  L : Int
  R : Int
  Col : Int
  Value : DValue
  deriving DecidableEq, Inhabited
def rpDENode : Rp DENode := rMap (rPair (rI .i64) (rPair (rI .i64) (rPair (rI .i64) (rPair (rI .i64) rpDValue)))) (fun x => (x.Tag, x.L, x.R, x.Col, x.Value))
theorem flDENode_0 : Fld rpDENode 0 (rI .i64) (fun x => x.Tag) := (fld_fst fld_one)
theorem sfDENode_0 : SFld rpDENode 0 (rI .i64) (fun x y => { x with Tag := y }) := sfld_map sfld_fst (fun _ _ => rfl)
theorem flDENode_1 : Fld rpDENode 1 (rI .i64) (fun x => x.L) := (fld_fst (fld_snd fld_one rfl))
theorem sfDENode_1 : SFld rpDENode 1 (rI .i64) (fun x y => { x with L := y }) := sfld_map (sfld_snd sfld_fst rfl) (fun _ _ => rfl)
theorem flDENode_2 : Fld rpDENode 2 (rI .i64) (fun x => x.R) := (fld_fst (fld_snd (fld_snd fld_one rfl) rfl))
theorem sfDENode_2 : SFld rpDENode 2 (rI .i64) (fun x y => { x with R := y }) := sfld_map (sfld_snd (sfld_snd sfld_fst rfl) rfl) (fun _ _ => rfl)
theorem flDENode_3 : Fld rpDENode 3 (rI .i64) (fun x => x.Col) := (fld_fst (fld_snd (fld_snd (fld_snd fld_one rfl) rfl) rfl))
theorem sfDENode_3 : SFld rpDENode 3 (rI .i64) (fun x y => { x with Col := y }) := sfld_map (sfld_snd (sfld_snd (sfld_snd sfld_fst rfl) rfl) rfl) (fun _ _ => rfl)
theorem flDENode_4 : Fld rpDENode 4 rpDValue (fun x => x.Value) := (fld_snd (fld_snd (fld_snd (fld_snd fld_one rfl) rfl) rfl) rfl)
theorem sfDENode_4 : SFld rpDENode 4 rpDValue (fun x y => { x with Value := y }) := sfld_map (sfld_snd (sfld_snd (sfld_snd (sfld_snd sfld_whole rfl) rfl) rfl) rfl) (fun _ _ => rfl)
theorem zrDENode : ∀ S, rpDENode.rc S [.int .i64 0, .int .i64 0, .int .i64 0, .int .i64 0, .int .i64 0, .int .i64 0, .int .u64 0, .string ⟨#[]⟩] ((⟨(0 : Int), (0 : Int), (0 : Int), (0 : Int), (⟨(0 : Int), (0 : Int), (0 : Int), []⟩ : DValue)⟩ : DENode)) := fun _ => ⟨[.int .i64 0], [.int .i64 0, .int .i64 0, .int .i64 0, .int .i64 0, .int .i64 0, .int .u64 0, .string ⟨#[]⟩], rfl, rfl, ⟨[.int .i64 0], [.int .i64 0, .int .i64 0, .int .i64 0, .int .i64 0, .int .u64 0, .string ⟨#[]⟩], rfl, rfl, ⟨[.int .i64 0], [.int .i64 0, .int .i64 0, .int .i64 0, .int .u64 0, .string ⟨#[]⟩], rfl, rfl, ⟨[.int .i64 0], [.int .i64 0, .int .i64 0, .int .u64 0, .string ⟨#[]⟩], rfl, rfl, zrDValue _⟩⟩⟩⟩
structure DExpr where
  Nodes : (List DENode)
  deriving DecidableEq, Inhabited
def rpDExpr : Rp DExpr := rMap (rSl rpDENode) (fun x => (x.Nodes))
theorem flDExpr_0 : Fld rpDExpr 0 (rSl rpDENode) (fun x => x.Nodes) := fld_one
theorem sfDExpr_0 : SFld rpDExpr 0 (rSl rpDENode) (fun x y => { x with Nodes := y }) := sfld_map sfld_whole (fun _ _ => rfl)
theorem zrDExpr : ∀ S, rpDExpr.rc S [.slice none 0 0] ((⟨[]⟩ : DExpr)) := fun _ => ⟨none, 0, rfl, Nat.le_refl _, Nat.zero_le _, .inl rfl⟩
structure OExpr_0 where
  Nodes : Value
def rpOExpr_0 : Rp OExpr_0 := rMap rV (fun x => (x.Nodes))
theorem flOExpr_0_0 : Fld rpOExpr_0 0 rV (fun x => x.Nodes) := fld_one
theorem sfOExpr_0_0 : SFld rpOExpr_0 0 rV (fun x y => { x with Nodes := y }) := sfld_map sfld_whole (fun _ _ => rfl)
def mkOExpr_0 (y : DExpr) (v0 : Value) : OExpr_0 := ⟨v0⟩
theorem zrOExpr_0 : ∀ S, rpOExpr_0.rc S [.slice none 0 0] (mkOExpr_0 ((⟨[]⟩ : DExpr)) (oslV none 0 0)) := fun _ => ⟨rfl, rfl⟩
theorem cvOExpr_0_to_D {S : SH} {cs : List Value} {y : DExpr} {v0 : Value} {xs0 : (List DENode)} (k0 : (rSl rpDENode).rc S [v0] xs0) (h : rpOExpr_0.rc S cs (mkOExpr_0 y v0)) : rpDExpr.rc S cs ((⟨xs0⟩ : DExpr)) := by
  have h0 := h
  exact (by rw [h0.1]; exact k0)
def gv0 : (List DValue) := [(⟨(1 : Int), (0 : Int), (0 : Int), []⟩ : DValue), (⟨(0 : Int), (0 : Int), (0 : Int), []⟩ : DValue), (⟨(1 : Int), (1 : Int), (0 : Int), []⟩ : DValue)]
theorem gm0 : ((0 : Nat), ([.int .i64 (1), .int .i64 (0), .int .u64 (0), .string ⟨([] : List UInt8).toArray⟩, .int .i64 (0), .int .i64 (0), .int .u64 (0), .string ⟨([] : List UInt8).toArray⟩, .int .i64 (1), .int .i64 (1), .int .u64 (0), .string ⟨([] : List UInt8).toArray⟩] : List Value)) ∈ glob := by simp [glob]
theorem gr0 : ∀ S, (rArr rpDValue 3).rc S ([.int .i64 (1), .int .i64 (0), .int .u64 (0), .string ⟨([] : List UInt8).toArray⟩, .int .i64 (0), .int .i64 (0), .int .u64 (0), .string ⟨([] : List UInt8).toArray⟩, .int .i64 (1), .int .i64 (1), .int .u64 (0), .string ⟨([] : List UInt8).toArray⟩] : List Value) gv0 := fun _ => ⟨rfl, ⟨[.int .i64 (1), .int .i64 (0), .int .u64 (0), .string ⟨([] : List UInt8).toArray⟩], [.int .i64 (0), .int .i64 (0), .int .u64 (0), .string ⟨([] : List UInt8).toArray⟩, .int .i64 (1), .int .i64 (1), .int .u64 (0), .string ⟨([] : List UInt8).toArray⟩], rfl, ⟨[.int .i64 (1)], [.int .i64 (0), .int .u64 (0), .string ⟨([] : List UInt8).toArray⟩], rfl, rfl, ⟨[.int .i64 (0)], [.int .u64 (0), .string ⟨([] : List UInt8).toArray⟩], rfl, rfl, ⟨[.int .u64 (0)], [.string ⟨([] : List UInt8).toArray⟩], rfl, rfl, rfl⟩⟩⟩, ⟨[.int .i64 (0), .int .i64 (0), .int .u64 (0), .string ⟨([] : List UInt8).toArray⟩], [.int .i64 (1), .int .i64 (1), .int .u64 (0), .string ⟨([] : List UInt8).toArray⟩], rfl, ⟨[.int .i64 (0)], [.int .i64 (0), .int .u64 (0), .string ⟨([] : List UInt8).toArray⟩], rfl, rfl, ⟨[.int .i64 (0)], [.int .u64 (0), .string ⟨([] : List UInt8).toArray⟩], rfl, rfl, ⟨[.int .u64 (0)], [.string ⟨([] : List UInt8).toArray⟩], rfl, rfl, rfl⟩⟩⟩, ⟨[.int .i64 (1), .int .i64 (1), .int .u64 (0), .string ⟨([] : List UInt8).toArray⟩], [], rfl, ⟨[.int .i64 (1)], [.int .i64 (1), .int .u64 (0), .string ⟨([] : List UInt8).toArray⟩], rfl, rfl, ⟨[.int .i64 (1)], [.int .u64 (0), .string ⟨([] : List UInt8).toArray⟩], rfl, rfl, ⟨[.int .u64 (0)], [.string ⟨([] : List UInt8).toArray⟩], rfl, rfl, rfl⟩⟩⟩, (rfl : _ = [])⟩⟩⟩⟩

end Go.Proofs.YtdhledkpgaeoaaaDoor

