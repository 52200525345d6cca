/- Facts of this claim: T. -/
import Derived.Test.YtbhkincjkpeaoaaDoD
import Derived.Test.YtbhkincjkpeaoaaProg
import Derived.Test.YtbhkincjkpeaoaaDoS
import Derived.Test.YtbhkincjkpeaoaaDoV3
import Derived.KernelRfl
namespace Go.Proofs.Ytbhkincjkpeaoaa
open Go

theorem mixed : Try.prog.follows .mixedOrders = true := by kernel_rfl
theorem ti2 : TI Try.prog 2 1 8 false [.int .i64 0] := ⟨by kernel_rfl, by kernel_rfl⟩
theorem ti3 : TI Try.prog 3 1 8 false [.int .i64 0] := ⟨by kernel_rfl, by kernel_rfl⟩
theorem ti4 : TI Try.prog 4 1 1 false [.bool false] := ⟨by kernel_rfl, by kernel_rfl⟩
theorem ti9 : TI Try.prog 9 1 16 false [.string ⟨#[]⟩] := ⟨by kernel_rfl, by kernel_rfl⟩
theorem ti22 : TI Try.prog 22 1 24 false [.slice none 0 0] := ⟨by kernel_rfl, by kernel_rfl⟩
theorem ti24 : TI Try.prog 24 1 24 true [.slice none 0 0] := ⟨by kernel_rfl, by kernel_rfl⟩
theorem ti25 : TI Try.prog 25 1 24 false [.slice none 0 0] := ⟨by kernel_rfl, by kernel_rfl⟩
theorem ti26 : TI Try.prog 26 1 24 false [.slice none 0 0] := ⟨by kernel_rfl, by kernel_rfl⟩
theorem ti28 : TI Try.prog 28 1 24 true [.slice none 0 0] := ⟨by kernel_rfl, by kernel_rfl⟩
theorem ti29 : TI Try.prog 29 1 24 false [.slice none 0 0] := ⟨by kernel_rfl, by kernel_rfl⟩
theorem ti30 : TI Try.prog 30 1 24 false [.slice none 0 0] := ⟨by kernel_rfl, by kernel_rfl⟩
theorem ti31 : TI Try.prog 31 1 24 false [.slice none 0 0] := ⟨by kernel_rfl, by kernel_rfl⟩
theorem ti33 : TI Try.prog 33 12 192 true [.int .i64 0, .int .i64 0, .int .i64 0, .int .i64 0, .slice none 0 0, .bool false, .slice none 0 0, .slice none 0 0, .slice none 0 0, .slice none 0 0, .slice none 0 0, .int .i64 0] := ⟨by kernel_rfl, by kernel_rfl⟩
theorem ti49 : TI Try.prog 49 1 8 false [.nilFunc] := ⟨by kernel_rfl, by kernel_rfl⟩
theorem ti51 : TI Try.prog 51 2 32 true [.int .i64 0, .slice none 0 0] := ⟨by kernel_rfl, by kernel_rfl⟩
theorem ti52 : TI Try.prog 52 1 8 false [.pointer none] := ⟨by kernel_rfl, by kernel_rfl⟩
theorem ti56 : TI Try.prog 56 1 24 false [.slice none 0 0] := ⟨by kernel_rfl, by kernel_rfl⟩
theorem ti58 : TI Try.prog 58 3 72 true [.slice none 0 0, .slice none 0 0, .slice none 0 0] := ⟨by kernel_rfl, by kernel_rfl⟩
theorem ti60 : TI Try.prog 60 1 8 false [.int .u64 0] := ⟨by kernel_rfl, by kernel_rfl⟩
theorem ti62 : TI Try.prog 62 4 40 true [.int .i64 0, .int .i64 0, .int .u64 0, .string ⟨#[]⟩] := ⟨by kernel_rfl, by kernel_rfl⟩
theorem ti64 : TI Try.prog 64 8 72 true [.int .i64 0, .int .i64 0, .int .i64 0, .int .i64 0, .int .i64 0, .int .i64 0, .int .u64 0, .string ⟨#[]⟩] := ⟨by kernel_rfl, by kernel_rfl⟩
theorem ti95 : TI Try.prog 95 2 16 true [.int .i64 0, .bool false] := ⟨by kernel_rfl, by kernel_rfl⟩
theorem ti121 : TI Try.prog 121 2 16 true (List.replicate 2 (.int .i64 0)) := ⟨by kernel_rfl, by kernel_rfl⟩
theorem fd24_0 : fieldIn Try.prog 24 0 = some (0, 1) := by kernel_rfl
theorem fd28_0 : fieldIn Try.prog 28 0 = some (0, 1) := by kernel_rfl
theorem fd33_0 : fieldIn Try.prog 33 0 = some (0, 1) := by kernel_rfl
theorem fd33_1 : fieldIn Try.prog 33 1 = some (1, 1) := by kernel_rfl
theorem fd33_2 : fieldIn Try.prog 33 2 = some (2, 1) := by kernel_rfl
theorem fd33_3 : fieldIn Try.prog 33 3 = some (3, 1) := by kernel_rfl
theorem fd33_4 : fieldIn Try.prog 33 4 = some (4, 1) := by kernel_rfl
theorem fd33_5 : fieldIn Try.prog 33 5 = some (5, 1) := by kernel_rfl
theorem fd33_6 : fieldIn Try.prog 33 6 = some (6, 1) := by kernel_rfl
theorem fd33_7 : fieldIn Try.prog 33 7 = some (7, 1) := by kernel_rfl
theorem fd33_8 : fieldIn Try.prog 33 8 = some (8, 1) := by kernel_rfl
theorem fd33_9 : fieldIn Try.prog 33 9 = some (9, 1) := by kernel_rfl
theorem fd33_10 : fieldIn Try.prog 33 10 = some (10, 1) := by kernel_rfl
theorem fd33_11 : fieldIn Try.prog 33 11 = some (11, 1) := by kernel_rfl
theorem fd51_0 : fieldIn Try.prog 51 0 = some (0, 1) := by kernel_rfl
theorem fd51_1 : fieldIn Try.prog 51 1 = some (1, 1) := by kernel_rfl
theorem fd58_0 : fieldIn Try.prog 58 0 = some (0, 1) := by kernel_rfl
theorem fd58_1 : fieldIn Try.prog 58 1 = some (1, 1) := by kernel_rfl
theorem fd58_2 : fieldIn Try.prog 58 2 = some (2, 1) := by kernel_rfl
theorem fd62_0 : fieldIn Try.prog 62 0 = some (0, 1) := by kernel_rfl
theorem fd62_1 : fieldIn Try.prog 62 1 = some (1, 1) := by kernel_rfl
theorem fd62_2 : fieldIn Try.prog 62 2 = some (2, 1) := by kernel_rfl
theorem fd62_3 : fieldIn Try.prog 62 3 = some (3, 1) := by kernel_rfl
theorem fd64_0 : fieldIn Try.prog 64 0 = some (0, 1) := by kernel_rfl
theorem fd64_1 : fieldIn Try.prog 64 1 = some (1, 1) := by kernel_rfl
theorem fd64_2 : fieldIn Try.prog 64 2 = some (2, 1) := by kernel_rfl
theorem fd64_3 : fieldIn Try.prog 64 3 = some (3, 1) := by kernel_rfl
theorem fd64_4 : fieldIn Try.prog 64 4 = some (4, 4) := by kernel_rfl
theorem fd95_0 : fieldIn Try.prog 95 0 = some (0, 1) := by kernel_rfl
theorem fs24 : fieldsIn Try.prog 24 = some [(0, 1)] := by kernel_rfl
theorem fs28 : fieldsIn Try.prog 28 = some [(0, 1)] := by kernel_rfl
theorem fs33 : fieldsIn Try.prog 33 = some [(0, 1), (1, 1), (2, 1), (3, 1), (4, 1), (5, 1), (6, 1), (7, 1), (8, 1), (9, 1), (10, 1), (11, 1)] := by kernel_rfl
theorem fs58 : fieldsIn Try.prog 58 = some [(0, 1), (1, 1), (2, 1)] := by kernel_rfl
theorem fs62 : fieldsIn Try.prog 62 = some [(0, 1), (1, 1), (2, 1), (3, 1)] := by kernel_rfl
theorem fs64 : fieldsIn Try.prog 64 = some [(0, 1), (1, 1), (2, 1), (3, 1), (4, 4)] := by kernel_rfl
theorem cb5 : callableB Try.prog 5 = true := by kernel_rfl
theorem cb6 : callableB Try.prog 6 = true := by kernel_rfl
theorem cb7 : callableB Try.prog 7 = true := by kernel_rfl
theorem cb9 : callableB Try.prog 9 = true := by kernel_rfl
theorem cb10 : callableB Try.prog 10 = true := by kernel_rfl
theorem cb11 : callableB Try.prog 11 = true := by kernel_rfl
theorem cb13 : callableB Try.prog 13 = true := by kernel_rfl
theorem cb14 : callableB Try.prog 14 = true := by kernel_rfl
theorem cb15 : callableB Try.prog 15 = true := by kernel_rfl
theorem cb16 : callableB Try.prog 16 = true := by kernel_rfl
theorem cb17 : callableB Try.prog 17 = true := by kernel_rfl
theorem cb18 : callableB Try.prog 18 = true := by kernel_rfl
theorem cb19 : callableB Try.prog 19 = true := by kernel_rfl
theorem cb20 : callableB Try.prog 20 = true := by kernel_rfl
theorem cb21 : callableB Try.prog 21 = true := by kernel_rfl
theorem cb22 : callableB Try.prog 22 = true := by kernel_rfl
theorem cb23 : callableB Try.prog 23 = true := by kernel_rfl
theorem cb24 : callableB Try.prog 24 = true := by kernel_rfl
theorem cb25 : callableB Try.prog 25 = true := by kernel_rfl
theorem cb26 : callableB Try.prog 26 = true := by kernel_rfl
theorem cb27 : callableB Try.prog 27 = true := by kernel_rfl
theorem cb28 : callableB Try.prog 28 = true := by kernel_rfl
theorem cb29 : callableB Try.prog 29 = true := by kernel_rfl
theorem cb30 : callableB Try.prog 30 = true := by kernel_rfl
theorem cb31 : callableB Try.prog 31 = true := by kernel_rfl
theorem cb32 : callableB Try.prog 32 = true := by kernel_rfl
theorem cb33 : callableB Try.prog 33 = true := by kernel_rfl
theorem cb34 : callableB Try.prog 34 = true := by kernel_rfl
theorem cb35 : callableB Try.prog 35 = true := by kernel_rfl
theorem cb36 : callableB Try.prog 36 = true := by kernel_rfl
theorem cb39 : callableB Try.prog 39 = true := by kernel_rfl
theorem cb40 : callableB Try.prog 40 = true := by kernel_rfl
theorem cb41 : callableB Try.prog 41 = true := by kernel_rfl
theorem cb42 : callableB Try.prog 42 = true := by kernel_rfl
theorem cb43 : callableB Try.prog 43 = true := by kernel_rfl
theorem cb44 : callableB Try.prog 44 = true := by kernel_rfl
theorem cb45 : callableB Try.prog 45 = true := by kernel_rfl
theorem cb46 : callableB Try.prog 46 = true := by kernel_rfl
theorem cb47 : callableB Try.prog 47 = true := by kernel_rfl
theorem cb48 : callableB Try.prog 48 = true := by kernel_rfl
theorem cb49 : callableB Try.prog 49 = true := by kernel_rfl
theorem cb50 : callableB Try.prog 50 = true := by kernel_rfl
theorem cb51 : callableB Try.prog 51 = true := by kernel_rfl
theorem cb52 : callableB Try.prog 52 = true := by kernel_rfl
theorem cb53 : callableB Try.prog 53 = true := by kernel_rfl
theorem cb54 : callableB Try.prog 54 = true := by kernel_rfl
theorem cb55 : callableB Try.prog 55 = true := by kernel_rfl
theorem cb56 : callableB Try.prog 56 = true := by kernel_rfl
theorem cb68 : callableB Try.prog 68 = true := by kernel_rfl
theorem cb69 : callableB Try.prog 69 = true := by kernel_rfl
theorem cb70 : callableB Try.prog 70 = true := by kernel_rfl
theorem cb71 : callableB Try.prog 71 = true := by kernel_rfl
theorem cb72 : callableB Try.prog 72 = true := by kernel_rfl
theorem cb73 : callableB Try.prog 73 = true := by kernel_rfl
theorem cb74 : callableB Try.prog 74 = true := by kernel_rfl
theorem cb75 : callableB Try.prog 75 = true := by kernel_rfl
theorem cb76 : callableB Try.prog 76 = true := by kernel_rfl
theorem cb77 : callableB Try.prog 77 = true := by kernel_rfl
theorem cb78 : callableB Try.prog 78 = true := by kernel_rfl
theorem cb79 : callableB Try.prog 79 = true := by kernel_rfl
theorem cb80 : callableB Try.prog 80 = true := by kernel_rfl
theorem cb87 : callableB Try.prog 87 = true := by kernel_rfl
theorem cb88 : callableB Try.prog 88 = true := by kernel_rfl
theorem cb89 : callableB Try.prog 89 = true := by kernel_rfl
theorem cb90 : callableB Try.prog 90 = true := by kernel_rfl
theorem cb91 : callableB Try.prog 91 = true := by kernel_rfl
theorem cb92 : callableB Try.prog 92 = true := by kernel_rfl
theorem cb93 : callableB Try.prog 93 = true := by kernel_rfl
theorem cb94 : callableB Try.prog 94 = true := by kernel_rfl
theorem cb96 : callableB Try.prog 96 = true := by kernel_rfl
theorem cb97 : callableB Try.prog 97 = true := by kernel_rfl
theorem cb98 : callableB Try.prog 98 = true := by kernel_rfl
theorem zv86 : ZV Try.prog 86 (.nilFunc) := (show (Try.prog.info? 86).bind (fun i => i.zero) = some (.nilFunc) by kernel_rfl)
theorem eqr62 : EqAtR Try.prog 62 rpDValue 2 := eqr_struct (n := 1) (fs := [(3, 0, false), (2, 1, false), (60, 2, false), (9, 3, false)]) (by kernel_rfl) (by kernel_rfl) rfl (EFs.cons ti3 rfl rfl flDValue_0 (EqAtR.up (eqr_int (n := 0) Try.underlying3) 0) (EFs.cons ti2 rfl rfl flDValue_1 (EqAtR.up (eqr_int (n := 0) Try.underlying2) 0) (EFs.cons ti60 rfl rfl flDValue_2 (EqAtR.up (eqr_int (n := 0) Try.underlying60) 0) (EFs.cons ti9 rfl rfl flDValue_3 (EqAtR.up (eqr_str (n := 0) Try.underlying9) 0) EFs.nil)))) (fun x y => by cases x; cases y; simp [Bool.decide_and])
theorem eq62 : EqD Try.prog 62 rpDValue := EqD.of (by kernel_rfl) (EqAtR.up eqr62 18)
theorem eq121 : EqD Try.prog 121 (rArr (rI .i64) 2) := EqD.of (by kernel_rfl) (EqAtR.up (eqr_arr (n := 1) Try.underlying121 ti3 rfl rfl (eqr_int (n := 0) Try.underlying3)) 18)

end Go.Proofs.Ytbhkincjkpeaoaa

