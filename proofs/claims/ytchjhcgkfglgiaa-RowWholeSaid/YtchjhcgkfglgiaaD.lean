/- The data of the program, as they lie in cells. -/
import Derived.Test.YtchjhcgkfglgiaaW28
namespace Go.Proofs.Ytchjhcgkfglgiaa
open Go

structure DValue where
  Kind : Int
  N : Int
  U : Int
  S : Str
  deriving DecidableEq, Inhabited
def rpDValue : Rp DValue := rMap (rPair (rI .i64) (rPair (rI .i64) (rPair (rI .u64) rS))) (fun x => (x.Kind, x.N, x.U, x.S))
theorem flDValue_0 : Fld rpDValue 0 (rI .i64) (fun x => x.Kind) := (fld_fst fld_one)
theorem sfDValue_0 : SFld rpDValue 0 (rI .i64) (fun x y => { x with Kind := y }) := sfld_map sfld_fst (fun _ _ => rfl)
theorem flDValue_1 : Fld rpDValue 1 (rI .i64) (fun x => x.N) := (fld_fst (fld_snd fld_one rfl))
theorem sfDValue_1 : SFld rpDValue 1 (rI .i64) (fun x y => { x with N := y }) := sfld_map (sfld_snd sfld_fst rfl) (fun _ _ => rfl)
theorem flDValue_2 : Fld rpDValue 2 (rI .u64) (fun x => x.U) := (fld_fst (fld_snd (fld_snd fld_one rfl) rfl))
theorem sfDValue_2 : SFld rpDValue 2 (rI .u64) (fun x y => { x with U := y }) := sfld_map (sfld_snd (sfld_snd sfld_fst rfl) rfl) (fun _ _ => rfl)
theorem flDValue_3 : Fld rpDValue 3 rS (fun x => x.S) := (fld_snd (fld_snd (fld_snd fld_one rfl) rfl) rfl)
theorem sfDValue_3 : SFld rpDValue 3 rS (fun x y => { x with S := y }) := sfld_map (sfld_snd (sfld_snd (sfld_snd sfld_whole rfl) rfl) rfl) (fun _ _ => rfl)
theorem zrDValue : ∀ S, rpDValue.rc S [.int .i64 0, .int .i64 0, .int .u64 0, .string ⟨#[]⟩] ((⟨(0 : Int), (0 : Int), (0 : Int), []⟩ : DValue)) := fun _ => ⟨[.int .i64 0], [.int .i64 0, .int .u64 0, .string ⟨#[]⟩], rfl, rfl, ⟨[.int .i64 0], [.int .u64 0, .string ⟨#[]⟩], rfl, rfl, ⟨[.int .u64 0], [.string ⟨#[]⟩], rfl, rfl, rfl⟩⟩⟩
structure DGroup where
  Key : (List DValue)
  Rows : (List (List DValue))
  deriving DecidableEq, Inhabited
def rpDGroup : Rp DGroup := rMap (rPair (rSl rpDValue) (rSl (rSl rpDValue))) (fun x => (x.Key, x.Rows))
theorem flDGroup_0 : Fld rpDGroup 0 (rSl rpDValue) (fun x => x.Key) := (fld_fst fld_one)
theorem sfDGroup_0 : SFld rpDGroup 0 (rSl rpDValue) (fun x y => { x with Key := y }) := sfld_map sfld_fst (fun _ _ => rfl)
theorem flDGroup_1 : Fld rpDGroup 1 (rSl (rSl rpDValue)) (fun x => x.Rows) := (fld_snd fld_one rfl)
theorem sfDGroup_1 : SFld rpDGroup 1 (rSl (rSl rpDValue)) (fun x y => { x with Rows := y }) := sfld_map (sfld_snd sfld_whole rfl) (fun _ _ => rfl)
theorem zrDGroup : ∀ S, rpDGroup.rc S [.slice none 0 0, .slice none 0 0] ((⟨[], []⟩ : DGroup)) := fun _ => ⟨[.slice none 0 0], [.slice none 0 0], rfl, ⟨none, 0, rfl, Nat.le_refl _, Nat.zero_le _, .inl rfl⟩, ⟨none, 0, rfl, Nat.le_refl _, Nat.zero_le _, .inl rfl⟩⟩

end Go.Proofs.Ytchjhcgkfglgiaa
