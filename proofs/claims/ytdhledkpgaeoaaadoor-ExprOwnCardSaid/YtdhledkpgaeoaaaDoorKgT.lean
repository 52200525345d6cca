/- Facts of this claim: T. -/
import Derived.Test.YtdhledkpgaeoaaaDoorKgD
import Derived.Test.YtdhledkpgaeoaaaDoorProg
import Derived.Test.YtdhledkpgaeoaaaDoorKgS
import Derived.Test.YtdhledkpgaeoaaaDoorKgV3
import Derived.KernelRfl
namespace Go.Proofs.YtdhledkpgaeoaaaDoor
open Go

theorem mixed : Tryd.prog.follows .mixedOrders = true := by kernel_rfl
theorem ti2 : TI Tryd.prog 2 1 8 false [.int .i64 0] := ⟨by kernel_rfl, by kernel_rfl⟩
theorem ti3 : TI Tryd.prog 3 1 8 false [.int .i64 0] := ⟨by kernel_rfl, by kernel_rfl⟩
theorem ti4 : TI Tryd.prog 4 1 1 false [.bool false] := ⟨by kernel_rfl, by kernel_rfl⟩
theorem ti9 : TI Tryd.prog 9 1 16 false [.string ⟨#[]⟩] := ⟨by kernel_rfl, by kernel_rfl⟩
theorem ti22 : TI Tryd.prog 22 1 24 false [.slice none 0 0] := ⟨by kernel_rfl, by kernel_rfl⟩
theorem ti24 : TI Tryd.prog 24 1 24 true [.slice none 0 0] := ⟨by kernel_rfl, by kernel_rfl⟩
theorem ti25 : TI Tryd.prog 25 1 24 false [.slice none 0 0] := ⟨by kernel_rfl, by kernel_rfl⟩
theorem ti26 : TI Tryd.prog 26 1 24 false [.slice none 0 0] := ⟨by kernel_rfl, by kernel_rfl⟩
theorem ti35 : TI Tryd.prog 35 1 8 false [.int .u64 0] := ⟨by kernel_rfl, by kernel_rfl⟩
theorem ti37 : TI Tryd.prog 37 4 40 true [.int .i64 0, .int .i64 0, .int .u64 0, .string ⟨#[]⟩] := ⟨by kernel_rfl, by kernel_rfl⟩
theorem ti49 : TI Tryd.prog 49 8 72 true [.int .i64 0, .int .i64 0, .int .i64 0, .int .i64 0, .int .i64 0, .int .i64 0, .int .u64 0, .string ⟨#[]⟩] := ⟨by kernel_rfl, by kernel_rfl⟩
theorem ti57 : TI Tryd.prog 57 1 8 false [.map none] := ⟨by kernel_rfl, by kernel_rfl⟩
theorem ti61 : TI Tryd.prog 61 1 8 false [.nilFunc] := ⟨by kernel_rfl, by kernel_rfl⟩
theorem ti68 : TI Tryd.prog 68 2 16 true (List.replicate 2 (.int .i64 0)) := ⟨by kernel_rfl, by kernel_rfl⟩
theorem ti75 : TI Tryd.prog 75 1 8 false [.nilFunc] := ⟨by kernel_rfl, by kernel_rfl⟩
theorem fd24_0 : fieldIn Tryd.prog 24 0 = some (0, 1) := by kernel_rfl
theorem fd37_0 : fieldIn Tryd.prog 37 0 = some (0, 1) := by kernel_rfl
theorem fd37_1 : fieldIn Tryd.prog 37 1 = some (1, 1) := by kernel_rfl
theorem fd37_2 : fieldIn Tryd.prog 37 2 = some (2, 1) := by kernel_rfl
theorem fd37_3 : fieldIn Tryd.prog 37 3 = some (3, 1) := by kernel_rfl
theorem fd49_0 : fieldIn Tryd.prog 49 0 = some (0, 1) := by kernel_rfl
theorem fd49_1 : fieldIn Tryd.prog 49 1 = some (1, 1) := by kernel_rfl
theorem fd49_2 : fieldIn Tryd.prog 49 2 = some (2, 1) := by kernel_rfl
theorem fd49_3 : fieldIn Tryd.prog 49 3 = some (3, 1) := by kernel_rfl
theorem fd49_4 : fieldIn Tryd.prog 49 4 = some (4, 4) := by kernel_rfl
theorem fs24 : fieldsIn Tryd.prog 24 = some [(0, 1)] := by kernel_rfl
theorem fs37 : fieldsIn Tryd.prog 37 = some [(0, 1), (1, 1), (2, 1), (3, 1)] := by kernel_rfl
theorem fs49 : fieldsIn Tryd.prog 49 = some [(0, 1), (1, 1), (2, 1), (3, 1), (4, 4)] := by kernel_rfl
theorem cb4 : callableB Tryd.prog 4 = true := by kernel_rfl
theorem cb5 : callableB Tryd.prog 5 = true := by kernel_rfl
theorem cb6 : callableB Tryd.prog 6 = true := by kernel_rfl
theorem cb7 : callableB Tryd.prog 7 = true := by kernel_rfl
theorem cb8 : callableB Tryd.prog 8 = true := by kernel_rfl
theorem cb9 : callableB Tryd.prog 9 = true := by kernel_rfl
theorem cb10 : callableB Tryd.prog 10 = true := by kernel_rfl
theorem cb11 : callableB Tryd.prog 11 = true := by kernel_rfl
theorem cb12 : callableB Tryd.prog 12 = true := by kernel_rfl
theorem cb13 : callableB Tryd.prog 13 = true := by kernel_rfl
theorem cb14 : callableB Tryd.prog 14 = true := by kernel_rfl
theorem cb15 : callableB Tryd.prog 15 = true := by kernel_rfl
theorem cb16 : callableB Tryd.prog 16 = true := by kernel_rfl
theorem cb17 : callableB Tryd.prog 17 = true := by kernel_rfl
theorem cb18 : callableB Tryd.prog 18 = true := by kernel_rfl
theorem cb19 : callableB Tryd.prog 19 = true := by kernel_rfl
theorem cb20 : callableB Tryd.prog 20 = true := by kernel_rfl
theorem cb21 : callableB Tryd.prog 21 = true := by kernel_rfl
theorem cb22 : callableB Tryd.prog 22 = true := by kernel_rfl
theorem cb23 : callableB Tryd.prog 23 = true := by kernel_rfl
theorem cb24 : callableB Tryd.prog 24 = true := by kernel_rfl
theorem cb25 : callableB Tryd.prog 25 = true := by kernel_rfl
theorem cb26 : callableB Tryd.prog 26 = true := by kernel_rfl
theorem cb27 : callableB Tryd.prog 27 = true := by kernel_rfl
theorem cb28 : callableB Tryd.prog 28 = true := by kernel_rfl
theorem cb31 : callableB Tryd.prog 31 = true := by kernel_rfl
theorem cb32 : callableB Tryd.prog 32 = true := by kernel_rfl
theorem cb33 : callableB Tryd.prog 33 = true := by kernel_rfl
theorem cb34 : callableB Tryd.prog 34 = true := by kernel_rfl
theorem cb35 : callableB Tryd.prog 35 = true := by kernel_rfl
theorem cb36 : callableB Tryd.prog 36 = true := by kernel_rfl
theorem cb37 : callableB Tryd.prog 37 = true := by kernel_rfl
theorem cb38 : callableB Tryd.prog 38 = true := by kernel_rfl
theorem cb39 : callableB Tryd.prog 39 = true := by kernel_rfl
theorem cb40 : callableB Tryd.prog 40 = true := by kernel_rfl
theorem cb41 : callableB Tryd.prog 41 = true := by kernel_rfl
theorem cb42 : callableB Tryd.prog 42 = true := by kernel_rfl
theorem cb43 : callableB Tryd.prog 43 = true := by kernel_rfl
theorem cb44 : callableB Tryd.prog 44 = true := by kernel_rfl
theorem cb45 : callableB Tryd.prog 45 = true := by kernel_rfl
theorem cb46 : callableB Tryd.prog 46 = true := by kernel_rfl
theorem cb47 : callableB Tryd.prog 47 = true := by kernel_rfl
theorem cb48 : callableB Tryd.prog 48 = true := by kernel_rfl
theorem cb49 : callableB Tryd.prog 49 = true := by kernel_rfl
theorem cb61 : callableB Tryd.prog 61 = true := by kernel_rfl
theorem cb62 : callableB Tryd.prog 62 = true := by kernel_rfl
theorem cb63 : callableB Tryd.prog 63 = true := by kernel_rfl
theorem cb64 : callableB Tryd.prog 64 = true := by kernel_rfl
theorem cb65 : callableB Tryd.prog 65 = true := by kernel_rfl
theorem cb66 : callableB Tryd.prog 66 = true := by kernel_rfl
theorem cb67 : callableB Tryd.prog 67 = true := by kernel_rfl
theorem cb68 : callableB Tryd.prog 68 = true := by kernel_rfl
theorem cb69 : callableB Tryd.prog 69 = true := by kernel_rfl
theorem cb70 : callableB Tryd.prog 70 = true := by kernel_rfl
theorem cb71 : callableB Tryd.prog 71 = true := by kernel_rfl
theorem cb72 : callableB Tryd.prog 72 = true := by kernel_rfl
theorem cb73 : callableB Tryd.prog 73 = true := by kernel_rfl
theorem cb74 : callableB Tryd.prog 74 = true := by kernel_rfl
theorem cb75 : callableB Tryd.prog 75 = true := by kernel_rfl
theorem cb76 : callableB Tryd.prog 76 = true := by kernel_rfl
theorem cb77 : callableB Tryd.prog 77 = true := by kernel_rfl
theorem cb78 : callableB Tryd.prog 78 = true := by kernel_rfl
theorem cb79 : callableB Tryd.prog 79 = true := by kernel_rfl
theorem cb80 : callableB Tryd.prog 80 = true := by kernel_rfl
theorem cb81 : callableB Tryd.prog 81 = true := by kernel_rfl
theorem cb82 : callableB Tryd.prog 82 = true := by kernel_rfl
theorem cb83 : callableB Tryd.prog 83 = true := by kernel_rfl
theorem cb89 : callableB Tryd.prog 89 = true := by kernel_rfl
theorem cb90 : callableB Tryd.prog 90 = true := by kernel_rfl
theorem cb91 : callableB Tryd.prog 91 = true := by kernel_rfl
theorem cb92 : callableB Tryd.prog 92 = true := by kernel_rfl
theorem cb93 : callableB Tryd.prog 93 = true := by kernel_rfl
theorem cb94 : callableB Tryd.prog 94 = true := by kernel_rfl
theorem cb96 : callableB Tryd.prog 96 = true := by kernel_rfl
theorem cb97 : callableB Tryd.prog 97 = true := by kernel_rfl
theorem cb98 : callableB Tryd.prog 98 = true := by kernel_rfl
theorem cb99 : callableB Tryd.prog 99 = true := by kernel_rfl
theorem cb100 : callableB Tryd.prog 100 = true := by kernel_rfl
theorem cb101 : callableB Tryd.prog 101 = true := by kernel_rfl
theorem zv4 : ZV Tryd.prog 4 (.bool false) := (show (Tryd.prog.info? 4).bind (fun i => i.zero) = some (.bool false) by kernel_rfl)
theorem zv61 : ZV Tryd.prog 61 (.nilFunc) := (show (Tryd.prog.info? 61).bind (fun i => i.zero) = some (.nilFunc) by kernel_rfl)
theorem eqr37 : EqAtR Tryd.prog 37 rpDValue 2 := eqr_struct (n := 1) (fs := [(3, 0, false), (2, 1, false), (35, 2, false), (9, 3, false)]) (by kernel_rfl) (by kernel_rfl) rfl (EFs.cons ti3 rfl rfl flDValue_0 (EqAtR.up (eqr_int (n := 0) Tryd.underlying3) 0) (EFs.cons ti2 rfl rfl flDValue_1 (EqAtR.up (eqr_int (n := 0) Tryd.underlying2) 0) (EFs.cons ti35 rfl rfl flDValue_2 (EqAtR.up (eqr_int (n := 0) Tryd.underlying35) 0) (EFs.cons ti9 rfl rfl flDValue_3 (EqAtR.up (eqr_str (n := 0) Tryd.underlying9) 0) EFs.nil)))) (fun x y => by cases x; cases y; simp [Bool.decide_and])
theorem eq37 : EqD Tryd.prog 37 rpDValue := EqD.of (by kernel_rfl) (EqAtR.up eqr37 18)
theorem eq68 : EqD Tryd.prog 68 (rArr (rI .i64) 2) := EqD.of (by kernel_rfl) (EqAtR.up (eqr_arr (n := 1) Tryd.underlying68 ti3 rfl rfl (eqr_int (n := 0) Tryd.underlying3)) 18)

end Go.Proofs.YtdhledkpgaeoaaaDoor

