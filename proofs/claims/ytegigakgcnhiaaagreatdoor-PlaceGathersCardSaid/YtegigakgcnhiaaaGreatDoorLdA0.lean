/- Facts of this claim: A0. -/
import Derived.Test.YtegigakgcnhiaaaGreatDoorRows
import Derived.Test.YtegigakgcnhiaaaGreatDoorLdT
import Derived.Test.YtegigakgcnhiaaaGreatDoorLdV3
import Derived.Lay
import Derived.Lib.LaidU8T
import Derived.PinnedBridge
import Derived.Test.YtegigakgcnhiaaaGreatDoorLdV4
import Derived.ProofKit
namespace Go.Proofs.YtegigakgcnhiaaaGreatDoor
open Go Go.Lib Go.Shelf Go.Proofs Go.ChangeShapes Go.WideShapes Go.ChangeAt Go.RowKit

theorem own_ok : ownKnob Tryz.prog.godebug = none := by kernel_rfl
theorem laid_ok : laidOutB Tryz.prog = true := by kernel_rfl
theorem toR9 {H : Type} (enc : TypeId × Value → H) (W : World) : ToR enc Tryz.prog W 9 (rOk rS inS) := toR_strO Tryz.underlying9 (by kernel_rfl)
theorem toR3 {H : Type} (enc : TypeId × Value → H) (W : World) : ToR enc Tryz.prog W 3 (rOk (rI .i64) (inK .i64)) := toR_intO Tryz.underlying3 (by kernel_rfl)
def okDColumn (x : DColumn) : Prop := inS x.Name ∧ (inK .i64) x.Kind
def roDColumn : Rp DColumn := iW (fi (rOk rS inS) (rOk (rI .i64) (inK .i64))) (fun x => (x.Name, x.Kind))
theorem refDColumn : Ref roDColumn rpDColumn okDColumn := ref_map (jQ ref_ok ref_ok)
theorem toR79 {H : Type} (enc : TypeId × Value → H) (W : World) : ToR enc Tryz.prog W 79 roDColumn := gB (l := [(9, 0), (3, 1)]) (by kernel_rfl) (by kernel_rfl) (fun y => ⟨⟨y.1, y.2⟩, rfl⟩) (iL (toR9 enc W) rfl (jX (toR3 enc W)))
theorem toR51 {H : Type} (enc : TypeId × Value → H) (W : World) : ToR enc Tryz.prog W 51 (rSl roDColumn) := gC Tryz.underlying51 (by kernel_rfl) rfl (toR79 enc W)
theorem toR28 {H : Type} (enc : TypeId × Value → H) (W : World) : ToR enc Tryz.prog W 28 (rSl (rOk (rI .i64) (inK .i64))) := gC Tryz.underlying28 (by kernel_rfl) rfl (toR3 enc W)
def okDTable (x : DTable) : Prop := inS x.Name ∧ (inL okDColumn) x.Columns ∧ (inL (inK .i64)) x.Keys
def roDTable : Rp DTable := iW (fi (rOk rS inS) (fi (rSl roDColumn) (rSl (rOk (rI .i64) (inK .i64))))) (fun x => (x.Name, x.Columns, x.Keys))
theorem refDTable : Ref roDTable rpDTable okDTable := ref_map (jQ ref_ok (jQ (ref_sl refDColumn) (ref_sl ref_ok)))
theorem toR53 {H : Type} (enc : TypeId × Value → H) (W : World) : ToR enc Tryz.prog W 53 roDTable := gB (l := [(9, 0), (51, 1), (28, 2)]) (by kernel_rfl) (by kernel_rfl) (fun y => ⟨⟨y.1, y.2.1, y.2.2⟩, rfl⟩) (iL (toR9 enc W) rfl (iL (toR51 enc W) rfl (jX (toR28 enc W))))
theorem toR22 {H : Type} (enc : TypeId × Value → H) (W : World) : ToR enc Tryz.prog W 22 (rSl roDTable) := gC Tryz.underlying22 (by kernel_rfl) rfl (toR53 enc W)
def okDCatalog (x : DCatalog) : Prop := (inL okDTable) x.Tables
def roDCatalog : Rp DCatalog := iW (rSl roDTable) (fun x => (x.Tables))
theorem refDCatalog : Ref roDCatalog rpDCatalog okDCatalog := ref_map (ref_sl refDTable)
theorem toR24 {H : Type} (enc : TypeId × Value → H) (W : World) : ToR enc Tryz.prog W 24 roDCatalog := gB (l := [(22, 0)]) (by kernel_rfl) (by kernel_rfl) (fun y => ⟨⟨y⟩, rfl⟩) (jX (toR22 enc W))
theorem toR2 {H : Type} (enc : TypeId × Value → H) (W : World) : ToR enc Tryz.prog W 2 (rOk (rI .i64) (inK .i64)) := toR_intO Tryz.underlying2 (by kernel_rfl)
theorem toR87 {H : Type} (enc : TypeId × Value → H) (W : World) : ToR enc Tryz.prog W 87 (rOk (rI .u64) (inK .u64)) := toR_intO Tryz.underlying87 (by kernel_rfl)
def okDValue (x : DValue) : Prop := (inK .i64) x.Kind ∧ (inK .i64) x.N ∧ (inK .u64) x.U ∧ inS x.S
def jM : Rp DValue := iW (fi (rOk (rI .i64) (inK .i64)) (fi (rOk (rI .i64) (inK .i64)) (fi (rOk (rI .u64) (inK .u64)) (rOk rS inS)))) (fun x => (x.Kind, x.N, x.U, x.S))
theorem refDValue : Ref jM rpDValue okDValue := ref_map (jQ ref_ok (jQ ref_ok (jQ ref_ok ref_ok)))
theorem toR89 {H : Type} (enc : TypeId × Value → H) (W : World) : ToR enc Tryz.prog W 89 jM := gB (l := [(3, 0), (2, 1), (87, 2), (9, 3)]) (by kernel_rfl) (by kernel_rfl) (fun y => ⟨⟨y.1, y.2.1, y.2.2.1, y.2.2.2⟩, rfl⟩) (iL (toR3 enc W) rfl (iL (toR2 enc W) rfl (iL (toR87 enc W) rfl (jX (toR9 enc W)))))
theorem toR45 {H : Type} (enc : TypeId × Value → H) (W : World) : ToR enc Tryz.prog W 45 (rSl jM) := gC Tryz.underlying45 (by kernel_rfl) rfl (toR89 enc W)
theorem toR54 {H : Type} (enc : TypeId × Value → H) (W : World) : ToR enc Tryz.prog W 54 (rSl (rSl jM)) := gC Tryz.underlying54 (by kernel_rfl) rfl (toR45 enc W)
theorem toR25 {H : Type} (enc : TypeId × Value → H) (W : World) : ToR enc Tryz.prog W 25 (rSl (rSl (rSl jM))) := gC Tryz.underlying25 (by kernel_rfl) rfl (toR54 enc W)
def okDBase (x : DBase) : Prop := (inL (inL (inL okDValue))) x.Tables
def roDBase : Rp DBase := iW (rSl (rSl (rSl jM))) (fun x => (x.Tables))
theorem refDBase : Ref roDBase rpDBase okDBase := ref_map (ref_sl (ref_sl (ref_sl refDValue)))
theorem toR27 {H : Type} (enc : TypeId × Value → H) (W : World) : ToR enc Tryz.prog W 27 roDBase := gB (l := [(25, 0)]) (by kernel_rfl) (by kernel_rfl) (fun y => ⟨⟨y⟩, rfl⟩) (jX (toR25 enc W))
theorem toR34 {H : Type} (enc : TypeId × Value → H) (W : World) : ToR enc Tryz.prog W 34 (rSl roDBase) := gC Tryz.underlying34 (by kernel_rfl) rfl (toR27 enc W)
def okDLayout (x : DLayout) : Prop := (inL okDBase) x.Parts
def roDLayout : Rp DLayout := iW (rSl roDBase) (fun x => (x.Parts))
theorem refDLayout : Ref roDLayout rpDLayout okDLayout := ref_map (ref_sl refDBase)
theorem toR36 {H : Type} (enc : TypeId × Value → H) (W : World) : ToR enc Tryz.prog W 36 roDLayout := gB (l := [(34, 0)]) (by kernel_rfl) (by kernel_rfl) (fun y => ⟨⟨y⟩, rfl⟩) (jX (toR34 enc W))
def laidL : List (String × DataW Unit) := [("unicode/utf8.acceptRanges", Rows.laid_unicode_utf8_acceptRanges), ("bowsprit/lex.words", Rows.laid_bowsprit_lex_words), ("bowsprit/catalog.kinds", Rows.laid_bowsprit_catalog_kinds), ("unicode.CaseRanges", Rows.laid_unicode_CaseRanges), ("unicode/utf8.first", Rows.laid_unicode_utf8_first)]
theorem gat1 : Tryz.prog.globalNamed "bowsprit/lex.words" = some 1 := by kernel_rfl
theorem gty1 : (Tryz.prog.globals[1]?).map (·.type) = some 168 := by kernel_rfl
set_option maxRecDepth 100000 in
theorem gtc1 (W : World) : ToC Tryz.prog W false 168 Rows.laid_bowsprit_lex_words [.string ⟨([83, 69, 76, 69, 67, 84] : List UInt8).toArray⟩, .string ⟨([68, 73, 83, 84, 73, 78, 67, 84] : List UInt8).toArray⟩, .string ⟨([70, 82, 79, 77] : List UInt8).toArray⟩, .string ⟨([76, 69, 70, 84] : List UInt8).toArray⟩, .string ⟨([74, 79, 73, 78] : List UInt8).toArray⟩, .string ⟨([79, 78] : List UInt8).toArray⟩, .string ⟨([87, 72, 69, 82, 69] : List UInt8).toArray⟩, .string ⟨([71, 82, 79, 85, 80] : List UInt8).toArray⟩, .string ⟨([66, 89] : List UInt8).toArray⟩, .string ⟨([72, 65, 86, 73, 78, 71] : List UInt8).toArray⟩, .string ⟨([85, 78, 73, 79, 78] : List UInt8).toArray⟩, .string ⟨([65, 76, 76] : List UInt8).toArray⟩, .string ⟨([79, 82, 68, 69, 82] : List UInt8).toArray⟩, .string ⟨([76, 73, 77, 73, 84] : List UInt8).toArray⟩, .string ⟨([65, 83, 67] : List UInt8).toArray⟩, .string ⟨([68, 69, 83, 67] : List UInt8).toArray⟩, .string ⟨([65, 83] : List UInt8).toArray⟩, .string ⟨([65, 78, 68] : List UInt8).toArray⟩, .string ⟨([79, 82] : List UInt8).toArray⟩, .string ⟨([78, 79, 84] : List UInt8).toArray⟩, .string ⟨([73, 83] : List UInt8).toArray⟩, .string ⟨([78, 85, 76, 76] : List UInt8).toArray⟩, .string ⟨([84, 82, 85, 69] : List UInt8).toArray⟩, .string ⟨([70, 65, 76, 83, 69] : List UInt8).toArray⟩, .string ⟨([67, 79, 85, 78, 84] : List UInt8).toArray⟩, .string ⟨([83, 85, 77] : List UInt8).toArray⟩, .string ⟨([77, 73, 78] : List UInt8).toArray⟩, .string ⟨([77, 65, 88] : List UInt8).toArray⟩] := toC_arr Tryz.underlying168 (by kernel_rfl) (by rw [show Tryz.prog.cellsOf 9 = 1 from by kernel_rfl]; exact (show FC _ _ _ 0 [(9, 0), (9, 1), (9, 2), (9, 3), (9, 4), (9, 5), (9, 6), (9, 7), (9, 8), (9, 9), (9, 10), (9, 11), (9, 12), (9, 13), (9, 14), (9, 15), (9, 16), (9, 17), (9, 18), (9, 19), (9, 20), (9, 21), (9, 22), (9, 23), (9, 24), (9, 25), (9, 26), (9, 27)] _ _ from bk (bC Tryz.underlying9 (by kernel_rfl)) rfl (bk (bC Tryz.underlying9 (by kernel_rfl)) rfl (bk (bC Tryz.underlying9 (by kernel_rfl)) rfl (bk (bC Tryz.underlying9 (by kernel_rfl)) rfl (bk (bC Tryz.underlying9 (by kernel_rfl)) rfl (bk (bC Tryz.underlying9 (by kernel_rfl)) rfl (bk (bC Tryz.underlying9 (by kernel_rfl)) rfl (bk (bC Tryz.underlying9 (by kernel_rfl)) rfl (bk (bC Tryz.underlying9 (by kernel_rfl)) rfl (bk (bC Tryz.underlying9 (by kernel_rfl)) rfl (bk (bC Tryz.underlying9 (by kernel_rfl)) rfl (bk (bC Tryz.underlying9 (by kernel_rfl)) rfl (bk (bC Tryz.underlying9 (by kernel_rfl)) rfl (bk (bC Tryz.underlying9 (by kernel_rfl)) rfl (bk (bC Tryz.underlying9 (by kernel_rfl)) rfl (bk (bC Tryz.underlying9 (by kernel_rfl)) rfl (bk (bC Tryz.underlying9 (by kernel_rfl)) rfl (bk (bC Tryz.underlying9 (by kernel_rfl)) rfl (bk (bC Tryz.underlying9 (by kernel_rfl)) rfl (bk (bC Tryz.underlying9 (by kernel_rfl)) rfl (bk (bC Tryz.underlying9 (by kernel_rfl)) rfl (bk (bC Tryz.underlying9 (by kernel_rfl)) rfl (bk (bC Tryz.underlying9 (by kernel_rfl)) rfl (bk (bC Tryz.underlying9 (by kernel_rfl)) rfl (bk (bC Tryz.underlying9 (by kernel_rfl)) rfl (bk (bC Tryz.underlying9 (by kernel_rfl)) rfl (bk (bC Tryz.underlying9 (by kernel_rfl)) rfl (bk (bC Tryz.underlying9 (by kernel_rfl)) rfl (fc_nil))))))))))))))))))))))))))))))
theorem gat0 : Tryz.prog.globalNamed "bowsprit/catalog.kinds" = some 0 := by kernel_rfl
theorem gty0 : (Tryz.prog.globals[0]?).map (·.type) = some 146 := by kernel_rfl
set_option maxRecDepth 100000 in
theorem gtc0 (W : World) : ToC Tryz.prog W false 146 Rows.laid_bowsprit_catalog_kinds [.string ⟨([98, 111, 111, 108] : List UInt8).toArray⟩, .int .i64 (1), .string ⟨([105, 110, 116] : List UInt8).toArray⟩, .int .i64 (2), .string ⟨([116, 101, 120, 116] : List UInt8).toArray⟩, .int .i64 (3)] := toC_arr Tryz.underlying146 (by kernel_rfl) (by rw [show Tryz.prog.cellsOf 145 = 2 from by kernel_rfl]; exact (show FC _ _ _ 0 [(145, 0), (145, 2), (145, 4)] _ _ from bk (toC_struct (l := [(9, 0), (3, 1)]) (by kernel_rfl) (by kernel_rfl) (bk (bC Tryz.underlying9 (by kernel_rfl)) rfl (bk (toC_int Tryz.underlying3 (by kernel_rfl)) rfl (fc_nil)))) rfl (bk (toC_struct (l := [(9, 0), (3, 1)]) (by kernel_rfl) (by kernel_rfl) (bk (bC Tryz.underlying9 (by kernel_rfl)) rfl (bk (toC_int Tryz.underlying3 (by kernel_rfl)) rfl (fc_nil)))) rfl (bk (toC_struct (l := [(9, 0), (3, 1)]) (by kernel_rfl) (by kernel_rfl) (bk (bC Tryz.underlying9 (by kernel_rfl)) rfl (bk (toC_int Tryz.underlying3 (by kernel_rfl)) rfl (fc_nil)))) rfl (fc_nil)))))
set_option maxRecDepth 100000 in
theorem door_met (os : Os) (args : Array Value) : laidMetH Tryz.prog laidL ((World.laidAll Tryz.prog os laidL).forCall (fun _ _ => 0) ⟨#[], args, []⟩).memory := by
 rw [MakeChecks.laidMetH_plain _ _ _ (by kernel_rfl)]
 exact laidMet_laidAll _ (by kernel_rfl) (by kernel_rfl)
theorem glob_laid {W : World} (h : laidMetH Tryz.prog laidL W) : ∀ p ∈ glob, ∃ c T fr, W.heap[p.1]? = some (.cells c T fr) ∧ c.toList.take p.2.length = p.2 := by
 rw [MakeChecks.laidMetH_plain _ _ _ (by kernel_rfl)] at h
 intro p hp
 simp only [glob, List.mem_cons, List.not_mem_nil, or_false] at hp
 rcases hp with rfl | rfl
 ·exact glob_of_laid h (List.mem_cons_of_mem _ (List.mem_cons_of_mem _ (List.mem_cons_self ..))) gat0 gty0 (gtc0 W)
 ·exact glob_of_laid h (List.mem_cons_of_mem _ (List.mem_cons_self ..)) gat1 gty1 (gtc1 W)
theorem caseX : Go.Proofs.CaseExtra Tryz.prog ez := ⟨by kernel_rfl, by kernel_rfl, by kernel_rfl, by kernel_rfl, by kernel_rfl, by kernel_rfl⟩
theorem u8X : Go.Proofs.U8Extra Tryz.prog ez := ⟨by kernel_rfl, by kernel_rfl, by kernel_rfl, by kernel_rfl, by kernel_rfl, by kernel_rfl, by kernel_rfl⟩
theorem accept_eq : (Rows.laid_unicode_utf8_acceptRanges : DataW Unit) = acceptData := by kernel_rfl
theorem tab_at {W : World} (h : laidMetH Tryz.prog laidL W) : tabP W := by
 rw [MakeChecks.laidMetH_plain _ _ _ (by kernel_rfl)] at h
 have h1 : VarReads Tryz.prog W "unicode.CaseRanges" caseData := Pinned.caseRanges_eq ▸ Lib.laidMet.reads h (List.mem_cons_of_mem _ (List.mem_cons_of_mem _ (List.mem_cons_of_mem _ (List.mem_cons_self ..))))
 have h2 : VarReads Tryz.prog W "unicode/utf8.first" firstData := Pinned.utf8First_eq ▸ Lib.laidMet.reads h (List.mem_cons_of_mem _ (List.mem_cons_of_mem _ (List.mem_cons_of_mem _ (List.mem_cons_of_mem _ (List.mem_cons_self ..)))))
 have h3 : VarReads Tryz.prog W "unicode/utf8.acceptRanges" acceptData := accept_eq ▸ Lib.laidMet.reads h (List.mem_cons_self ..)
 exact ⟨caseVar_of_reads { jE with } (by kernel_rfl) caseX h1, utf8Tabs_of_readsT { jE with } u8X h2 h3⟩
theorem tab_laid {W : World} (h : laidMetH Tryz.prog laidL W) : ∀ w' : World, (∀ (b : Nat) (o : Obj), W.heap[b]? = some o → ∃ o', w'.heap[b]? = some o' ∧ ole o o') → tabP w' := fun _ hle => ⟨CaseVar_ole hle (tab_at h).1, Utf8Tabs_ole hle (tab_at h).2⟩
end Go.Proofs.YtegigakgcnhiaaaGreatDoor

