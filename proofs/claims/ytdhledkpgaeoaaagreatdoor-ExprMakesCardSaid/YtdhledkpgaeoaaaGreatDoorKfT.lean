/- Facts of this claim: T. -/
import Derived.Test.YtdhledkpgaeoaaaGreatDoorKfD
import Derived.Test.YtdhledkpgaeoaaaGreatDoorProg
import Derived.Test.YtdhledkpgaeoaaaGreatDoorKfS
import Derived.Test.YtdhledkpgaeoaaaGreatDoorKfV3
import Derived.KernelRfl
namespace Go.Proofs.YtdhledkpgaeoaaaGreatDoor
open Go

theorem mixed : Tryz.prog.follows .mixedOrders = true := by kernel_rfl
theorem ti2 : TI Tryz.prog 2 1 8 false [.int .i64 0] := ⟨by kernel_rfl, by kernel_rfl⟩
theorem ti3 : TI Tryz.prog 3 1 8 false [.int .i64 0] := ⟨by kernel_rfl, by kernel_rfl⟩
theorem ti4 : TI Tryz.prog 4 1 1 false [.bool false] := ⟨by kernel_rfl, by kernel_rfl⟩
theorem ti9 : TI Tryz.prog 9 1 16 false [.string ⟨#[]⟩] := ⟨by kernel_rfl, by kernel_rfl⟩
theorem ti22 : TI Tryz.prog 22 1 24 false [.slice none 0 0] := ⟨by kernel_rfl, by kernel_rfl⟩
theorem ti24 : TI Tryz.prog 24 1 24 true [.slice none 0 0] := ⟨by kernel_rfl, by kernel_rfl⟩
theorem ti28 : TI Tryz.prog 28 1 24 false [.slice none 0 0] := ⟨by kernel_rfl, by kernel_rfl⟩
theorem ti29 : TI Tryz.prog 29 1 24 false [.slice none 0 0] := ⟨by kernel_rfl, by kernel_rfl⟩
theorem ti31 : TI Tryz.prog 31 1 8 false [.int .u64 0] := ⟨by kernel_rfl, by kernel_rfl⟩
theorem ti33 : TI Tryz.prog 33 4 40 true [.int .i64 0, .int .i64 0, .int .u64 0, .string ⟨#[]⟩] := ⟨by kernel_rfl, by kernel_rfl⟩
theorem ti42 : TI Tryz.prog 42 8 72 true [.int .i64 0, .int .i64 0, .int .i64 0, .int .i64 0, .int .i64 0, .int .i64 0, .int .u64 0, .string ⟨#[]⟩] := ⟨by kernel_rfl, by kernel_rfl⟩
theorem ti75 : TI Tryz.prog 75 1 8 false [.map none] := ⟨by kernel_rfl, by kernel_rfl⟩
theorem ti78 : TI Tryz.prog 78 1 8 false [.nilFunc] := ⟨by kernel_rfl, by kernel_rfl⟩
theorem ti105 : TI Tryz.prog 105 1 8 false [.nilFunc] := ⟨by kernel_rfl, by kernel_rfl⟩
theorem ti114 : TI Tryz.prog 114 2 16 true (List.replicate 2 (.int .i64 0)) := ⟨by kernel_rfl, by kernel_rfl⟩
theorem fd24_0 : fieldIn Tryz.prog 24 0 = some (0, 1) := by kernel_rfl
theorem fd33_0 : fieldIn Tryz.prog 33 0 = some (0, 1) := by kernel_rfl
theorem fd33_1 : fieldIn Tryz.prog 33 1 = some (1, 1) := by kernel_rfl
theorem fd33_2 : fieldIn Tryz.prog 33 2 = some (2, 1) := by kernel_rfl
theorem fd33_3 : fieldIn Tryz.prog 33 3 = some (3, 1) := by kernel_rfl
theorem fd42_0 : fieldIn Tryz.prog 42 0 = some (0, 1) := by kernel_rfl
theorem fd42_1 : fieldIn Tryz.prog 42 1 = some (1, 1) := by kernel_rfl
theorem fd42_2 : fieldIn Tryz.prog 42 2 = some (2, 1) := by kernel_rfl
theorem fd42_3 : fieldIn Tryz.prog 42 3 = some (3, 1) := by kernel_rfl
theorem fd42_4 : fieldIn Tryz.prog 42 4 = some (4, 4) := by kernel_rfl
theorem fs24 : fieldsIn Tryz.prog 24 = some [(0, 1)] := by kernel_rfl
theorem fs33 : fieldsIn Tryz.prog 33 = some [(0, 1), (1, 1), (2, 1), (3, 1)] := by kernel_rfl
theorem fs42 : fieldsIn Tryz.prog 42 = some [(0, 1), (1, 1), (2, 1), (3, 1), (4, 4)] := by kernel_rfl
theorem cb9 : callableB Tryz.prog 9 = true := by kernel_rfl
theorem cb10 : callableB Tryz.prog 10 = true := by kernel_rfl
theorem cb12 : callableB Tryz.prog 12 = true := by kernel_rfl
theorem cb13 : callableB Tryz.prog 13 = true := by kernel_rfl
theorem cb15 : callableB Tryz.prog 15 = true := by kernel_rfl
theorem cb16 : callableB Tryz.prog 16 = true := by kernel_rfl
theorem cb17 : callableB Tryz.prog 17 = true := by kernel_rfl
theorem cb18 : callableB Tryz.prog 18 = true := by kernel_rfl
theorem cb19 : callableB Tryz.prog 19 = true := by kernel_rfl
theorem cb20 : callableB Tryz.prog 20 = true := by kernel_rfl
theorem cb24 : callableB Tryz.prog 24 = true := by kernel_rfl
theorem cb25 : callableB Tryz.prog 25 = true := by kernel_rfl
theorem cb26 : callableB Tryz.prog 26 = true := by kernel_rfl
theorem cb27 : callableB Tryz.prog 27 = true := by kernel_rfl
theorem cb29 : callableB Tryz.prog 29 = true := by kernel_rfl
theorem cb30 : callableB Tryz.prog 30 = true := by kernel_rfl
theorem cb33 : callableB Tryz.prog 33 = true := by kernel_rfl
theorem cb39 : callableB Tryz.prog 39 = true := by kernel_rfl
theorem cb41 : callableB Tryz.prog 41 = true := by kernel_rfl
theorem cb42 : callableB Tryz.prog 42 = true := by kernel_rfl
theorem cb44 : callableB Tryz.prog 44 = true := by kernel_rfl
theorem cb45 : callableB Tryz.prog 45 = true := by kernel_rfl
theorem cb46 : callableB Tryz.prog 46 = true := by kernel_rfl
theorem cb47 : callableB Tryz.prog 47 = true := by kernel_rfl
theorem cb48 : callableB Tryz.prog 48 = true := by kernel_rfl
theorem cb50 : callableB Tryz.prog 50 = true := by kernel_rfl
theorem cb55 : callableB Tryz.prog 55 = true := by kernel_rfl
theorem cb58 : callableB Tryz.prog 58 = true := by kernel_rfl
theorem cb59 : callableB Tryz.prog 59 = true := by kernel_rfl
theorem cb60 : callableB Tryz.prog 60 = true := by kernel_rfl
theorem cb61 : callableB Tryz.prog 61 = true := by kernel_rfl
theorem cb62 : callableB Tryz.prog 62 = true := by kernel_rfl
theorem cb63 : callableB Tryz.prog 63 = true := by kernel_rfl
theorem cb64 : callableB Tryz.prog 64 = true := by kernel_rfl
theorem cb66 : callableB Tryz.prog 66 = true := by kernel_rfl
theorem cb67 : callableB Tryz.prog 67 = true := by kernel_rfl
theorem cb70 : callableB Tryz.prog 70 = true := by kernel_rfl
theorem cb71 : callableB Tryz.prog 71 = true := by kernel_rfl
theorem cb72 : callableB Tryz.prog 72 = true := by kernel_rfl
theorem cb73 : callableB Tryz.prog 73 = true := by kernel_rfl
theorem cb74 : callableB Tryz.prog 74 = true := by kernel_rfl
theorem cb75 : callableB Tryz.prog 75 = true := by kernel_rfl
theorem cb76 : callableB Tryz.prog 76 = true := by kernel_rfl
theorem cb77 : callableB Tryz.prog 77 = true := by kernel_rfl
theorem cb78 : callableB Tryz.prog 78 = true := by kernel_rfl
theorem cb79 : callableB Tryz.prog 79 = true := by kernel_rfl
theorem cb80 : callableB Tryz.prog 80 = true := by kernel_rfl
theorem cb81 : callableB Tryz.prog 81 = true := by kernel_rfl
theorem cb82 : callableB Tryz.prog 82 = true := by kernel_rfl
theorem cb83 : callableB Tryz.prog 83 = true := by kernel_rfl
theorem cb84 : callableB Tryz.prog 84 = true := by kernel_rfl
theorem cb85 : callableB Tryz.prog 85 = true := by kernel_rfl
theorem cb86 : callableB Tryz.prog 86 = true := by kernel_rfl
theorem cb87 : callableB Tryz.prog 87 = true := by kernel_rfl
theorem cb88 : callableB Tryz.prog 88 = true := by kernel_rfl
theorem cb98 : callableB Tryz.prog 98 = true := by kernel_rfl
theorem cb101 : callableB Tryz.prog 101 = true := by kernel_rfl
theorem cb102 : callableB Tryz.prog 102 = true := by kernel_rfl
theorem cb103 : callableB Tryz.prog 103 = true := by kernel_rfl
theorem cb104 : callableB Tryz.prog 104 = true := by kernel_rfl
theorem cb105 : callableB Tryz.prog 105 = true := by kernel_rfl
theorem cb109 : callableB Tryz.prog 109 = true := by kernel_rfl
theorem cb110 : callableB Tryz.prog 110 = true := by kernel_rfl
theorem cb111 : callableB Tryz.prog 111 = true := by kernel_rfl
theorem cb112 : callableB Tryz.prog 112 = true := by kernel_rfl
theorem cb113 : callableB Tryz.prog 113 = true := by kernel_rfl
theorem cb114 : callableB Tryz.prog 114 = true := by kernel_rfl
theorem cb115 : callableB Tryz.prog 115 = true := by kernel_rfl
theorem cb116 : callableB Tryz.prog 116 = true := by kernel_rfl
theorem cb117 : callableB Tryz.prog 117 = true := by kernel_rfl
theorem cb118 : callableB Tryz.prog 118 = true := by kernel_rfl
theorem cb119 : callableB Tryz.prog 119 = true := by kernel_rfl
theorem cb120 : callableB Tryz.prog 120 = true := by kernel_rfl
theorem cb121 : callableB Tryz.prog 121 = true := by kernel_rfl
theorem cb122 : callableB Tryz.prog 122 = true := by kernel_rfl
theorem cb123 : callableB Tryz.prog 123 = true := by kernel_rfl
theorem cb124 : callableB Tryz.prog 124 = true := by kernel_rfl
theorem cb125 : callableB Tryz.prog 125 = true := by kernel_rfl
theorem cb126 : callableB Tryz.prog 126 = true := by kernel_rfl
theorem cb127 : callableB Tryz.prog 127 = true := by kernel_rfl
theorem cb149 : callableB Tryz.prog 149 = true := by kernel_rfl
theorem cb150 : callableB Tryz.prog 150 = true := by kernel_rfl
theorem cb162 : callableB Tryz.prog 162 = true := by kernel_rfl
theorem cb163 : callableB Tryz.prog 163 = true := by kernel_rfl
theorem cb164 : callableB Tryz.prog 164 = true := by kernel_rfl
theorem cb165 : callableB Tryz.prog 165 = true := by kernel_rfl
theorem cb166 : callableB Tryz.prog 166 = true := by kernel_rfl
theorem cb168 : callableB Tryz.prog 168 = true := by kernel_rfl
theorem cb169 : callableB Tryz.prog 169 = true := by kernel_rfl
theorem zv78 : ZV Tryz.prog 78 (.nilFunc) := (show (Tryz.prog.info? 78).bind (fun i => i.zero) = some (.nilFunc) by kernel_rfl)
theorem eqr33 : EqAtR Tryz.prog 33 rpDValue 2 := eqr_struct (n := 1) (fs := [(3, 0, false), (2, 1, false), (31, 2, false), (9, 3, false)]) (by kernel_rfl) (by kernel_rfl) rfl (EFs.cons ti3 rfl rfl flDValue_0 (EqAtR.up (eqr_int (n := 0) Tryz.underlying3) 0) (EFs.cons ti2 rfl rfl flDValue_1 (EqAtR.up (eqr_int (n := 0) Tryz.underlying2) 0) (EFs.cons ti31 rfl rfl flDValue_2 (EqAtR.up (eqr_int (n := 0) Tryz.underlying31) 0) (EFs.cons ti9 rfl rfl flDValue_3 (EqAtR.up (eqr_str (n := 0) Tryz.underlying9) 0) EFs.nil)))) (fun x y => by cases x; cases y; simp [Bool.decide_and])
theorem eq33 : EqD Tryz.prog 33 rpDValue := EqD.of (by kernel_rfl) (EqAtR.up eqr33 18)
theorem eqr42 : EqAtR Tryz.prog 42 rpDENode 3 := eqr_struct (n := 2) (fs := [(3, 0, false), (3, 1, false), (3, 2, false), (3, 3, false), (33, 4, false)]) (by kernel_rfl) (by kernel_rfl) rfl (EFs.cons ti3 rfl rfl flDENode_0 (EqAtR.up (eqr_int (n := 0) Tryz.underlying3) 1) (EFs.cons ti3 rfl rfl flDENode_1 (EqAtR.up (eqr_int (n := 0) Tryz.underlying3) 1) (EFs.cons ti3 rfl rfl flDENode_2 (EqAtR.up (eqr_int (n := 0) Tryz.underlying3) 1) (EFs.cons ti3 rfl rfl flDENode_3 (EqAtR.up (eqr_int (n := 0) Tryz.underlying3) 1) (EFs.cons ti33 rfl rfl flDENode_4 (EqAtR.up eqr33 0) EFs.nil))))) (fun x y => by cases x; cases y; simp [Bool.decide_and])
theorem eq42 : EqD Tryz.prog 42 rpDENode := EqD.of (by kernel_rfl) (EqAtR.up eqr42 17)
theorem eq114 : EqD Tryz.prog 114 (rArr (rI .i64) 2) := EqD.of (by kernel_rfl) (EqAtR.up (eqr_arr (n := 1) Tryz.underlying114 ti3 rfl rfl (eqr_int (n := 0) Tryz.underlying3)) 18)
end Go.Proofs.YtdhledkpgaeoaaaGreatDoor

