/- Closed facts of the program's tables. -/
import Derived.Test.YtchjhcgkfglgiaaD
import Derived.Test.YtchjhcgkfglgiaaProg
import Derived.Test.YtchjhcgkfglgiaaS
import Derived.Test.YtchjhcgkfglgiaaW15
import Derived.KernelRfl
namespace Go.Proofs.Ytchjhcgkfglgiaa
open Go

theorem mixed : Try.prog.follows .mixedOrders = true := by kernel_rfl
theorem ti2 : TI Try.prog 2 1 8 false [.int .i64 0] := ⟨by kernel_rfl, by kernel_rfl⟩
theorem ti3 : TI Try.prog 3 1 8 false [.int .i64 0] := ⟨by kernel_rfl, by kernel_rfl⟩
theorem ti5 : TI Try.prog 5 1 1 false [.int .u8 0] := ⟨by kernel_rfl, by kernel_rfl⟩
theorem ti9 : TI Try.prog 9 1 16 false [.string ⟨#[]⟩] := ⟨by kernel_rfl, by kernel_rfl⟩
theorem ti22 : TI Try.prog 22 1 24 false [.slice none 0 0] := ⟨by kernel_rfl, by kernel_rfl⟩
theorem ti26 : TI Try.prog 26 1 24 false [.slice none 0 0] := ⟨by kernel_rfl, by kernel_rfl⟩
theorem ti31 : TI Try.prog 31 1 8 false [.int .u64 0] := ⟨by kernel_rfl, by kernel_rfl⟩
theorem ti33 : TI Try.prog 33 4 40 true [.int .i64 0, .int .i64 0, .int .u64 0, .string ⟨#[]⟩] := ⟨by kernel_rfl, by kernel_rfl⟩
theorem ti37 : TI Try.prog 37 1 24 false [.slice none 0 0] := ⟨by kernel_rfl, by kernel_rfl⟩
theorem ti40 : TI Try.prog 40 1 4 false [.int .u32 0] := ⟨by kernel_rfl, by kernel_rfl⟩
theorem ti53 : TI Try.prog 53 1 24 false [.slice none 0 0] := ⟨by kernel_rfl, by kernel_rfl⟩
theorem ti57 : TI Try.prog 57 2 48 true [.slice none 0 0, .slice none 0 0] := ⟨by kernel_rfl, by kernel_rfl⟩
theorem ti67 : TI Try.prog 67 1 8 false [.nilFunc] := ⟨by kernel_rfl, by kernel_rfl⟩
theorem ti102 : TI Try.prog 102 256 1024 true (List.replicate 256 (.int .u32 0)) := ⟨by kernel_rfl, by kernel_rfl⟩
theorem fd33_0 : fieldIn Try.prog 33 0 = some (0, 1) := by kernel_rfl
theorem fd33_1 : fieldIn Try.prog 33 1 = some (1, 1) := by kernel_rfl
theorem fd33_2 : fieldIn Try.prog 33 2 = some (2, 1) := by kernel_rfl
theorem fd33_3 : fieldIn Try.prog 33 3 = some (3, 1) := by kernel_rfl
theorem fd57_0 : fieldIn Try.prog 57 0 = some (0, 1) := by kernel_rfl
theorem fd57_1 : fieldIn Try.prog 57 1 = some (1, 1) := by kernel_rfl
theorem fs33 : fieldsIn Try.prog 33 = some [(0, 1), (1, 1), (2, 1), (3, 1)] := by kernel_rfl
theorem fs57 : fieldsIn Try.prog 57 = some [(0, 1), (1, 1)] := by kernel_rfl
theorem cb9 : callableB Try.prog 9 = true := by kernel_rfl
theorem cb10 : callableB Try.prog 10 = true := by kernel_rfl
theorem cb11 : callableB Try.prog 11 = true := by kernel_rfl
theorem cb12 : callableB Try.prog 12 = true := by kernel_rfl
theorem cb13 : callableB Try.prog 13 = true := by kernel_rfl
theorem cb14 : callableB Try.prog 14 = true := by kernel_rfl
theorem cb15 : callableB Try.prog 15 = true := by kernel_rfl
theorem cb16 : callableB Try.prog 16 = true := by kernel_rfl
theorem cb17 : callableB Try.prog 17 = true := by kernel_rfl
theorem cb18 : callableB Try.prog 18 = true := by kernel_rfl
theorem cb19 : callableB Try.prog 19 = true := by kernel_rfl
theorem cb20 : callableB Try.prog 20 = true := by kernel_rfl
theorem cb21 : callableB Try.prog 21 = true := by kernel_rfl
theorem cb22 : callableB Try.prog 22 = true := by kernel_rfl
theorem cb23 : callableB Try.prog 23 = true := by kernel_rfl
theorem cb24 : callableB Try.prog 24 = true := by kernel_rfl
theorem cb25 : callableB Try.prog 25 = true := by kernel_rfl
theorem cb26 : callableB Try.prog 26 = true := by kernel_rfl
theorem cb27 : callableB Try.prog 27 = true := by kernel_rfl
theorem cb28 : callableB Try.prog 28 = true := by kernel_rfl
theorem cb29 : callableB Try.prog 29 = true := by kernel_rfl
theorem cb30 : callableB Try.prog 30 = true := by kernel_rfl
theorem cb31 : callableB Try.prog 31 = true := by kernel_rfl
theorem cb32 : callableB Try.prog 32 = true := by kernel_rfl
theorem cb33 : callableB Try.prog 33 = true := by kernel_rfl
theorem cb34 : callableB Try.prog 34 = true := by kernel_rfl
theorem cb35 : callableB Try.prog 35 = true := by kernel_rfl
theorem cb36 : callableB Try.prog 36 = true := by kernel_rfl
theorem cb37 : callableB Try.prog 37 = true := by kernel_rfl
theorem cb38 : callableB Try.prog 38 = true := by kernel_rfl
theorem cb39 : callableB Try.prog 39 = true := by kernel_rfl
theorem cb40 : callableB Try.prog 40 = true := by kernel_rfl
theorem cb41 : callableB Try.prog 41 = true := by kernel_rfl
theorem cb42 : callableB Try.prog 42 = true := by kernel_rfl
theorem cb43 : callableB Try.prog 43 = true := by kernel_rfl
theorem cb44 : callableB Try.prog 44 = true := by kernel_rfl
theorem cb45 : callableB Try.prog 45 = true := by kernel_rfl
theorem cb46 : callableB Try.prog 46 = true := by kernel_rfl
theorem cb47 : callableB Try.prog 47 = true := by kernel_rfl
theorem cb48 : callableB Try.prog 48 = true := by kernel_rfl
theorem cb49 : callableB Try.prog 49 = true := by kernel_rfl
theorem cb50 : callableB Try.prog 50 = true := by kernel_rfl
theorem cb51 : callableB Try.prog 51 = true := by kernel_rfl
theorem cb52 : callableB Try.prog 52 = true := by kernel_rfl
theorem cb53 : callableB Try.prog 53 = true := by kernel_rfl
theorem cb54 : callableB Try.prog 54 = true := by kernel_rfl
theorem cb55 : callableB Try.prog 55 = true := by kernel_rfl
theorem cb56 : callableB Try.prog 56 = true := by kernel_rfl
theorem cb57 : callableB Try.prog 57 = true := by kernel_rfl
theorem cb58 : callableB Try.prog 58 = true := by kernel_rfl
theorem cb59 : callableB Try.prog 59 = true := by kernel_rfl
theorem cb60 : callableB Try.prog 60 = true := by kernel_rfl
theorem cb61 : callableB Try.prog 61 = true := by kernel_rfl
theorem cb62 : callableB Try.prog 62 = true := by kernel_rfl
theorem cb63 : callableB Try.prog 63 = true := by kernel_rfl
theorem cb64 : callableB Try.prog 64 = true := by kernel_rfl
theorem cb65 : callableB Try.prog 65 = true := by kernel_rfl
theorem cb66 : callableB Try.prog 66 = true := by kernel_rfl
theorem cb67 : callableB Try.prog 67 = true := by kernel_rfl
theorem cb68 : callableB Try.prog 68 = true := by kernel_rfl
theorem cb69 : callableB Try.prog 69 = true := by kernel_rfl
theorem cb70 : callableB Try.prog 70 = true := by kernel_rfl
theorem cb71 : callableB Try.prog 71 = true := by kernel_rfl
theorem cb74 : callableB Try.prog 74 = true := by kernel_rfl
theorem cb75 : callableB Try.prog 75 = true := by kernel_rfl
theorem cb76 : callableB Try.prog 76 = true := by kernel_rfl
theorem cb77 : callableB Try.prog 77 = true := by kernel_rfl
theorem cb78 : callableB Try.prog 78 = true := by kernel_rfl
theorem cb79 : callableB Try.prog 79 = true := by kernel_rfl
theorem cb80 : callableB Try.prog 80 = true := by kernel_rfl
theorem cb81 : callableB Try.prog 81 = true := by kernel_rfl
theorem cb82 : callableB Try.prog 82 = true := by kernel_rfl
theorem cb83 : callableB Try.prog 83 = true := by kernel_rfl
theorem cb84 : callableB Try.prog 84 = true := by kernel_rfl
theorem cb95 : callableB Try.prog 95 = true := by kernel_rfl
theorem cb96 : callableB Try.prog 96 = true := by kernel_rfl
theorem cb97 : callableB Try.prog 97 = true := by kernel_rfl
theorem cb98 : callableB Try.prog 98 = true := by kernel_rfl
theorem zv22 : ZV Try.prog 22 (.slice none 0 0) := (show (Try.prog.info? 22).bind (fun i => i.zero) = some (.slice none 0 0) by kernel_rfl)
theorem eqr33 : EqAtR Try.prog 33 rpDValue 2 := eqr_struct (n := 1) (fs := [(3, 0, false), (2, 1, false), (31, 2, false), (9, 3, false)]) (by kernel_rfl) (by kernel_rfl) rfl (EFs.cons ti3 rfl rfl flDValue_0 (EqAtR.up (eqr_int (n := 0) Try.underlying3) 0) (EFs.cons ti2 rfl rfl flDValue_1 (EqAtR.up (eqr_int (n := 0) Try.underlying2) 0) (EFs.cons ti31 rfl rfl flDValue_2 (EqAtR.up (eqr_int (n := 0) Try.underlying31) 0) (EFs.cons ti9 rfl rfl flDValue_3 (EqAtR.up (eqr_str (n := 0) Try.underlying9) 0) EFs.nil)))) (fun x y => by cases x; cases y; simp [Bool.decide_and])
theorem eq33 : EqD Try.prog 33 rpDValue := EqD.of (by kernel_rfl) (EqAtR.up eqr33 18)

end Go.Proofs.Ytchjhcgkfglgiaa
