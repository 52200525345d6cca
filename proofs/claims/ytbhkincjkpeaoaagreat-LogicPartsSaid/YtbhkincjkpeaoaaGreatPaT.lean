/- Facts of this claim: T. -/
import Derived.Test.YtbhkincjkpeaoaaGreatPaD
import Derived.Test.YtbhkincjkpeaoaaGreatProg
import Derived.Test.YtbhkincjkpeaoaaGreatPaS
import Derived.Test.YtbhkincjkpeaoaaGreatPaV3
import Derived.KernelRfl
namespace Go.Proofs.YtbhkincjkpeaoaaGreat
open Go

theorem mixed : Tryz.prog.follows .mixedOrders = true := by kernel_rfl
theorem ti2 : TI Tryz.prog 2 1 8 false [.int .i64 0] := ⟨by kernel_rfl, by kernel_rfl⟩
theorem ti3 : TI Tryz.prog 3 1 8 false [.int .i64 0] := ⟨by kernel_rfl, by kernel_rfl⟩
theorem ti4 : TI Tryz.prog 4 1 1 false [.bool false] := ⟨by kernel_rfl, by kernel_rfl⟩
theorem ti9 : TI Tryz.prog 9 1 16 false [.string ⟨#[]⟩] := ⟨by kernel_rfl, by kernel_rfl⟩
theorem ti22 : TI Tryz.prog 22 1 24 false [.slice none 0 0] := ⟨by kernel_rfl, by kernel_rfl⟩
theorem ti23 : TI Tryz.prog 23 1 24 false [.slice none 0 0] := ⟨by kernel_rfl, by kernel_rfl⟩
theorem ti25 : TI Tryz.prog 25 1 24 true [.slice none 0 0] := ⟨by kernel_rfl, by kernel_rfl⟩
theorem ti26 : TI Tryz.prog 26 1 24 false [.slice none 0 0] := ⟨by kernel_rfl, by kernel_rfl⟩
theorem ti27 : TI Tryz.prog 27 1 24 false [.slice none 0 0] := ⟨by kernel_rfl, by kernel_rfl⟩
theorem ti28 : TI Tryz.prog 28 1 24 false [.slice none 0 0] := ⟨by kernel_rfl, by kernel_rfl⟩
theorem ti30 : TI Tryz.prog 30 12 192 true [.int .i64 0, .int .i64 0, .int .i64 0, .int .i64 0, .slice none 0 0, .bool false, .slice none 0 0, .slice none 0 0, .slice none 0 0, .slice none 0 0, .slice none 0 0, .int .i64 0] := ⟨by kernel_rfl, by kernel_rfl⟩
theorem ti31 : TI Tryz.prog 31 1 24 false [.slice none 0 0] := ⟨by kernel_rfl, by kernel_rfl⟩
theorem ti33 : TI Tryz.prog 33 1 24 true [.slice none 0 0] := ⟨by kernel_rfl, by kernel_rfl⟩
theorem ti59 : TI Tryz.prog 59 1 8 false [.nilFunc] := ⟨by kernel_rfl, by kernel_rfl⟩
theorem ti61 : TI Tryz.prog 61 2 32 true [.int .i64 0, .slice none 0 0] := ⟨by kernel_rfl, by kernel_rfl⟩
theorem ti65 : TI Tryz.prog 65 1 8 false [.pointer none] := ⟨by kernel_rfl, by kernel_rfl⟩
theorem ti68 : TI Tryz.prog 68 1 24 false [.slice none 0 0] := ⟨by kernel_rfl, by kernel_rfl⟩
theorem ti70 : TI Tryz.prog 70 3 72 true [.slice none 0 0, .slice none 0 0, .slice none 0 0] := ⟨by kernel_rfl, by kernel_rfl⟩
theorem ti79 : TI Tryz.prog 79 1 8 false [.int .u64 0] := ⟨by kernel_rfl, by kernel_rfl⟩
theorem ti81 : TI Tryz.prog 81 4 40 true [.int .i64 0, .int .i64 0, .int .u64 0, .string ⟨#[]⟩] := ⟨by kernel_rfl, by kernel_rfl⟩
theorem ti83 : TI Tryz.prog 83 8 72 true [.int .i64 0, .int .i64 0, .int .i64 0, .int .i64 0, .int .i64 0, .int .i64 0, .int .u64 0, .string ⟨#[]⟩] := ⟨by kernel_rfl, by kernel_rfl⟩
theorem ti86 : TI Tryz.prog 86 2 16 true [.int .i64 0, .bool false] := ⟨by kernel_rfl, by kernel_rfl⟩
theorem ti140 : TI Tryz.prog 140 2 16 true (List.replicate 2 (.int .i64 0)) := ⟨by kernel_rfl, by kernel_rfl⟩
theorem fd25_0 : fieldIn Tryz.prog 25 0 = some (0, 1) := by kernel_rfl
theorem fd30_0 : fieldIn Tryz.prog 30 0 = some (0, 1) := by kernel_rfl
theorem fd30_1 : fieldIn Tryz.prog 30 1 = some (1, 1) := by kernel_rfl
theorem fd30_2 : fieldIn Tryz.prog 30 2 = some (2, 1) := by kernel_rfl
theorem fd30_3 : fieldIn Tryz.prog 30 3 = some (3, 1) := by kernel_rfl
theorem fd30_4 : fieldIn Tryz.prog 30 4 = some (4, 1) := by kernel_rfl
theorem fd30_5 : fieldIn Tryz.prog 30 5 = some (5, 1) := by kernel_rfl
theorem fd30_6 : fieldIn Tryz.prog 30 6 = some (6, 1) := by kernel_rfl
theorem fd30_7 : fieldIn Tryz.prog 30 7 = some (7, 1) := by kernel_rfl
theorem fd30_8 : fieldIn Tryz.prog 30 8 = some (8, 1) := by kernel_rfl
theorem fd30_9 : fieldIn Tryz.prog 30 9 = some (9, 1) := by kernel_rfl
theorem fd30_10 : fieldIn Tryz.prog 30 10 = some (10, 1) := by kernel_rfl
theorem fd30_11 : fieldIn Tryz.prog 30 11 = some (11, 1) := by kernel_rfl
theorem fd33_0 : fieldIn Tryz.prog 33 0 = some (0, 1) := by kernel_rfl
theorem fd61_0 : fieldIn Tryz.prog 61 0 = some (0, 1) := by kernel_rfl
theorem fd61_1 : fieldIn Tryz.prog 61 1 = some (1, 1) := by kernel_rfl
theorem fd70_0 : fieldIn Tryz.prog 70 0 = some (0, 1) := by kernel_rfl
theorem fd70_1 : fieldIn Tryz.prog 70 1 = some (1, 1) := by kernel_rfl
theorem fd70_2 : fieldIn Tryz.prog 70 2 = some (2, 1) := by kernel_rfl
theorem fd81_0 : fieldIn Tryz.prog 81 0 = some (0, 1) := by kernel_rfl
theorem fd81_1 : fieldIn Tryz.prog 81 1 = some (1, 1) := by kernel_rfl
theorem fd81_2 : fieldIn Tryz.prog 81 2 = some (2, 1) := by kernel_rfl
theorem fd81_3 : fieldIn Tryz.prog 81 3 = some (3, 1) := by kernel_rfl
theorem fd83_0 : fieldIn Tryz.prog 83 0 = some (0, 1) := by kernel_rfl
theorem fd83_1 : fieldIn Tryz.prog 83 1 = some (1, 1) := by kernel_rfl
theorem fd83_2 : fieldIn Tryz.prog 83 2 = some (2, 1) := by kernel_rfl
theorem fd83_3 : fieldIn Tryz.prog 83 3 = some (3, 1) := by kernel_rfl
theorem fd83_4 : fieldIn Tryz.prog 83 4 = some (4, 4) := by kernel_rfl
theorem fd86_0 : fieldIn Tryz.prog 86 0 = some (0, 1) := by kernel_rfl
theorem fs25 : fieldsIn Tryz.prog 25 = some [(0, 1)] := by kernel_rfl
theorem fs30 : fieldsIn Tryz.prog 30 = some [(0, 1), (1, 1), (2, 1), (3, 1), (4, 1), (5, 1), (6, 1), (7, 1), (8, 1), (9, 1), (10, 1), (11, 1)] := by kernel_rfl
theorem fs33 : fieldsIn Tryz.prog 33 = some [(0, 1)] := by kernel_rfl
theorem fs70 : fieldsIn Tryz.prog 70 = some [(0, 1), (1, 1), (2, 1)] := by kernel_rfl
theorem fs81 : fieldsIn Tryz.prog 81 = some [(0, 1), (1, 1), (2, 1), (3, 1)] := by kernel_rfl
theorem fs83 : fieldsIn Tryz.prog 83 = some [(0, 1), (1, 1), (2, 1), (3, 1), (4, 4)] := by kernel_rfl
theorem cb6 : callableB Tryz.prog 6 = true := by kernel_rfl
theorem cb7 : callableB Tryz.prog 7 = true := by kernel_rfl
theorem cb8 : callableB Tryz.prog 8 = true := by kernel_rfl
theorem cb9 : callableB Tryz.prog 9 = true := by kernel_rfl
theorem cb10 : callableB Tryz.prog 10 = true := by kernel_rfl
theorem cb11 : callableB Tryz.prog 11 = true := by kernel_rfl
theorem cb15 : callableB Tryz.prog 15 = true := by kernel_rfl
theorem cb16 : callableB Tryz.prog 16 = true := by kernel_rfl
theorem cb23 : callableB Tryz.prog 23 = true := by kernel_rfl
theorem cb24 : callableB Tryz.prog 24 = true := by kernel_rfl
theorem cb25 : callableB Tryz.prog 25 = true := by kernel_rfl
theorem cb26 : callableB Tryz.prog 26 = true := by kernel_rfl
theorem cb27 : callableB Tryz.prog 27 = true := by kernel_rfl
theorem cb28 : callableB Tryz.prog 28 = true := by kernel_rfl
theorem cb29 : callableB Tryz.prog 29 = true := by kernel_rfl
theorem cb32 : callableB Tryz.prog 32 = true := by kernel_rfl
theorem cb33 : callableB Tryz.prog 33 = true := by kernel_rfl
theorem cb34 : callableB Tryz.prog 34 = true := by kernel_rfl
theorem cb35 : callableB Tryz.prog 35 = true := by kernel_rfl
theorem cb36 : callableB Tryz.prog 36 = true := by kernel_rfl
theorem cb37 : callableB Tryz.prog 37 = true := by kernel_rfl
theorem cb38 : callableB Tryz.prog 38 = true := by kernel_rfl
theorem cb39 : callableB Tryz.prog 39 = true := by kernel_rfl
theorem cb40 : callableB Tryz.prog 40 = true := by kernel_rfl
theorem cb44 : callableB Tryz.prog 44 = true := by kernel_rfl
theorem cb45 : callableB Tryz.prog 45 = true := by kernel_rfl
theorem cb46 : callableB Tryz.prog 46 = true := by kernel_rfl
theorem cb49 : callableB Tryz.prog 49 = true := by kernel_rfl
theorem cb50 : callableB Tryz.prog 50 = true := by kernel_rfl
theorem cb51 : callableB Tryz.prog 51 = true := by kernel_rfl
theorem cb52 : callableB Tryz.prog 52 = true := by kernel_rfl
theorem cb53 : callableB Tryz.prog 53 = true := by kernel_rfl
theorem cb54 : callableB Tryz.prog 54 = true := by kernel_rfl
theorem cb55 : callableB Tryz.prog 55 = true := by kernel_rfl
theorem cb56 : callableB Tryz.prog 56 = true := by kernel_rfl
theorem cb57 : callableB Tryz.prog 57 = true := by kernel_rfl
theorem cb58 : callableB Tryz.prog 58 = true := by kernel_rfl
theorem cb59 : callableB Tryz.prog 59 = true := by kernel_rfl
theorem cb65 : callableB Tryz.prog 65 = true := by kernel_rfl
theorem cb66 : callableB Tryz.prog 66 = true := by kernel_rfl
theorem cb67 : callableB Tryz.prog 67 = true := by kernel_rfl
theorem cb68 : callableB Tryz.prog 68 = true := by kernel_rfl
theorem cb69 : callableB Tryz.prog 69 = true := by kernel_rfl
theorem cb70 : callableB Tryz.prog 70 = true := by kernel_rfl
theorem cb71 : callableB Tryz.prog 71 = true := by kernel_rfl
theorem cb72 : callableB Tryz.prog 72 = true := by kernel_rfl
theorem cb73 : callableB Tryz.prog 73 = true := by kernel_rfl
theorem cb74 : callableB Tryz.prog 74 = true := by kernel_rfl
theorem cb75 : callableB Tryz.prog 75 = true := by kernel_rfl
theorem cb76 : callableB Tryz.prog 76 = true := by kernel_rfl
theorem cb77 : callableB Tryz.prog 77 = true := by kernel_rfl
theorem cb78 : callableB Tryz.prog 78 = true := by kernel_rfl
theorem cb79 : callableB Tryz.prog 79 = true := by kernel_rfl
theorem cb80 : callableB Tryz.prog 80 = true := by kernel_rfl
theorem cb81 : callableB Tryz.prog 81 = true := by kernel_rfl
theorem cb82 : callableB Tryz.prog 82 = true := by kernel_rfl
theorem cb83 : callableB Tryz.prog 83 = true := by kernel_rfl
theorem cb84 : callableB Tryz.prog 84 = true := by kernel_rfl
theorem cb98 : callableB Tryz.prog 98 = true := by kernel_rfl
theorem cb99 : callableB Tryz.prog 99 = true := by kernel_rfl
theorem cb100 : callableB Tryz.prog 100 = true := by kernel_rfl
theorem cb101 : callableB Tryz.prog 101 = true := by kernel_rfl
theorem cb102 : callableB Tryz.prog 102 = true := by kernel_rfl
theorem cb103 : callableB Tryz.prog 103 = true := by kernel_rfl
theorem cb104 : callableB Tryz.prog 104 = true := by kernel_rfl
theorem cb105 : callableB Tryz.prog 105 = true := by kernel_rfl
theorem cb106 : callableB Tryz.prog 106 = true := by kernel_rfl
theorem cb107 : callableB Tryz.prog 107 = true := by kernel_rfl
theorem cb108 : callableB Tryz.prog 108 = true := by kernel_rfl
theorem cb109 : callableB Tryz.prog 109 = true := by kernel_rfl
theorem cb110 : callableB Tryz.prog 110 = true := by kernel_rfl
theorem cb111 : callableB Tryz.prog 111 = true := by kernel_rfl
theorem cb121 : callableB Tryz.prog 121 = true := by kernel_rfl
theorem cb122 : callableB Tryz.prog 122 = true := by kernel_rfl
theorem cb123 : callableB Tryz.prog 123 = true := by kernel_rfl
theorem cb124 : callableB Tryz.prog 124 = true := by kernel_rfl
theorem cb125 : callableB Tryz.prog 125 = true := by kernel_rfl
theorem cb126 : callableB Tryz.prog 126 = true := by kernel_rfl
theorem cb127 : callableB Tryz.prog 127 = true := by kernel_rfl
theorem cb128 : callableB Tryz.prog 128 = true := by kernel_rfl
theorem cb132 : callableB Tryz.prog 132 = true := by kernel_rfl
theorem cb133 : callableB Tryz.prog 133 = true := by kernel_rfl
theorem cb136 : callableB Tryz.prog 136 = true := by kernel_rfl
theorem zv112 : ZV Tryz.prog 112 (.nilFunc) := (show (Tryz.prog.info? 112).bind (fun i => i.zero) = some (.nilFunc) by kernel_rfl)
theorem eqr81 : EqAtR Tryz.prog 81 rpDValue 2 := eqr_struct (n := 1) (fs := [(3, 0, false), (2, 1, false), (79, 2, false), (9, 3, false)]) (by kernel_rfl) (by kernel_rfl) rfl (EFs.cons ti3 rfl rfl flDValue_0 (EqAtR.up (eqr_int (n := 0) Tryz.underlying3) 0) (EFs.cons ti2 rfl rfl flDValue_1 (EqAtR.up (eqr_int (n := 0) Tryz.underlying2) 0) (EFs.cons ti79 rfl rfl flDValue_2 (EqAtR.up (eqr_int (n := 0) Tryz.underlying79) 0) (EFs.cons ti9 rfl rfl flDValue_3 (EqAtR.up (eqr_str (n := 0) Tryz.underlying9) 0) EFs.nil)))) (fun x y => by cases x; cases y; simp [Bool.decide_and])
theorem eq81 : EqD Tryz.prog 81 rpDValue := EqD.of (by kernel_rfl) (EqAtR.up eqr81 18)
theorem eqr83 : EqAtR Tryz.prog 83 rpDENode 3 := eqr_struct (n := 2) (fs := [(3, 0, false), (3, 1, false), (3, 2, false), (3, 3, false), (81, 4, false)]) (by kernel_rfl) (by kernel_rfl) rfl (EFs.cons ti3 rfl rfl flDENode_0 (EqAtR.up (eqr_int (n := 0) Tryz.underlying3) 1) (EFs.cons ti3 rfl rfl flDENode_1 (EqAtR.up (eqr_int (n := 0) Tryz.underlying3) 1) (EFs.cons ti3 rfl rfl flDENode_2 (EqAtR.up (eqr_int (n := 0) Tryz.underlying3) 1) (EFs.cons ti3 rfl rfl flDENode_3 (EqAtR.up (eqr_int (n := 0) Tryz.underlying3) 1) (EFs.cons ti81 rfl rfl flDENode_4 (EqAtR.up eqr81 0) EFs.nil))))) (fun x y => by cases x; cases y; simp [Bool.decide_and])
theorem eq83 : EqD Tryz.prog 83 rpDENode := EqD.of (by kernel_rfl) (EqAtR.up eqr83 17)
theorem eqr86 : EqAtR Tryz.prog 86 rpDOrd 2 := eqr_struct (n := 1) (fs := [(3, 0, false), (4, 1, false)]) (by kernel_rfl) (by kernel_rfl) rfl (EFs.cons ti3 rfl rfl flDOrd_0 (EqAtR.up (eqr_int (n := 0) Tryz.underlying3) 0) (EFs.cons ti4 rfl rfl flDOrd_1 (EqAtR.up (eqr_bool (n := 0) Tryz.underlying4) 0) EFs.nil)) (fun x y => by cases x; cases y; simp [Bool.decide_and])
theorem eq86 : EqD Tryz.prog 86 rpDOrd := EqD.of (by kernel_rfl) (EqAtR.up eqr86 18)
theorem eq140 : EqD Tryz.prog 140 (rArr (rI .i64) 2) := EqD.of (by kernel_rfl) (EqAtR.up (eqr_arr (n := 1) Tryz.underlying140 ti3 rfl rfl (eqr_int (n := 0) Tryz.underlying3)) 18)

end Go.Proofs.YtbhkincjkpeaoaaGreat

