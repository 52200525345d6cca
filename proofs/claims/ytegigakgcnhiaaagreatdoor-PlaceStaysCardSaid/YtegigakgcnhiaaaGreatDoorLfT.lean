/- Facts of this claim: T. -/
import Derived.Test.YtegigakgcnhiaaaGreatDoorLfD
import Derived.Test.YtegigakgcnhiaaaGreatDoorProg
import Derived.Test.YtegigakgcnhiaaaGreatDoorLfS
import Derived.Test.YtegigakgcnhiaaaGreatDoorLfV4
import Derived.Shelf.Strings.CaseAny
import Derived.KernelRfl
namespace Go.Proofs.YtegigakgcnhiaaaGreatDoor
open Go

theorem mixed : Tryz.prog.follows .mixedOrders = true := by kernel_rfl
theorem ti2 : TI Tryz.prog 2 1 8 false [.int .i64 0] := ⟨by kernel_rfl, by kernel_rfl⟩
theorem ti3 : TI Tryz.prog 3 1 8 false [.int .i64 0] := ⟨by kernel_rfl, by kernel_rfl⟩
theorem ti4 : TI Tryz.prog 4 1 1 false [.bool false] := ⟨by kernel_rfl, by kernel_rfl⟩
theorem ti5 : TI Tryz.prog 5 1 1 false [.int .u8 0] := ⟨by kernel_rfl, by kernel_rfl⟩
theorem ti9 : TI Tryz.prog 9 1 16 false [.string ⟨#[]⟩] := ⟨by kernel_rfl, by kernel_rfl⟩
theorem ti22 : TI Tryz.prog 22 1 24 false [.slice none 0 0] := ⟨by kernel_rfl, by kernel_rfl⟩
theorem ti24 : TI Tryz.prog 24 1 24 true [.slice none 0 0] := ⟨by kernel_rfl, by kernel_rfl⟩
theorem ti25 : TI Tryz.prog 25 1 24 false [.slice none 0 0] := ⟨by kernel_rfl, by kernel_rfl⟩
theorem ti27 : TI Tryz.prog 27 1 24 true [.slice none 0 0] := ⟨by kernel_rfl, by kernel_rfl⟩
theorem ti28 : TI Tryz.prog 28 1 24 false [.slice none 0 0] := ⟨by kernel_rfl, by kernel_rfl⟩
theorem ti34 : TI Tryz.prog 34 1 24 false [.slice none 0 0] := ⟨by kernel_rfl, by kernel_rfl⟩
theorem ti36 : TI Tryz.prog 36 1 24 true [.slice none 0 0] := ⟨by kernel_rfl, by kernel_rfl⟩
theorem ti45 : TI Tryz.prog 45 1 24 false [.slice none 0 0] := ⟨by kernel_rfl, by kernel_rfl⟩
theorem ti47 : TI Tryz.prog 47 4 32 true [.int .i64 0, .int .i64 0, .int .i64 0, .int .i64 0] := ⟨by kernel_rfl, by kernel_rfl⟩
theorem ti51 : TI Tryz.prog 51 1 24 false [.slice none 0 0] := ⟨by kernel_rfl, by kernel_rfl⟩
theorem ti53 : TI Tryz.prog 53 3 64 true [.string ⟨#[]⟩, .slice none 0 0, .slice none 0 0] := ⟨by kernel_rfl, by kernel_rfl⟩
theorem ti54 : TI Tryz.prog 54 1 24 false [.slice none 0 0] := ⟨by kernel_rfl, by kernel_rfl⟩
theorem ti79 : TI Tryz.prog 79 2 24 true [.string ⟨#[]⟩, .int .i64 0] := ⟨by kernel_rfl, by kernel_rfl⟩
theorem ti87 : TI Tryz.prog 87 1 8 false [.int .u64 0] := ⟨by kernel_rfl, by kernel_rfl⟩
theorem ti89 : TI Tryz.prog 89 4 40 true [.int .i64 0, .int .i64 0, .int .u64 0, .string ⟨#[]⟩] := ⟨by kernel_rfl, by kernel_rfl⟩
theorem ti91 : TI Tryz.prog 91 1 4 false [.int .u32 0] := ⟨by kernel_rfl, by kernel_rfl⟩
theorem ti97 : TI Tryz.prog 97 3 24 true [.int .i64 0, .int .i64 0, .int .i64 0] := ⟨by kernel_rfl, by kernel_rfl⟩
theorem ti110 : TI Tryz.prog 110 1 8 false [.nilFunc] := ⟨by kernel_rfl, by kernel_rfl⟩
theorem ti126 : TI Tryz.prog 126 1 8 false [.nilFunc] := ⟨by kernel_rfl, by kernel_rfl⟩
theorem ti137 : TI Tryz.prog 137 1 8 false [.map none] := ⟨by kernel_rfl, by kernel_rfl⟩
theorem ti145 : TI Tryz.prog 145 2 24 true [.string ⟨#[]⟩, .int .i64 0] := ⟨by kernel_rfl, by kernel_rfl⟩
theorem ti146 : TI Tryz.prog 146 6 72 true [.string ⟨#[]⟩, .int .i64 0, .string ⟨#[]⟩, .int .i64 0, .string ⟨#[]⟩, .int .i64 0] := ⟨by kernel_rfl, by kernel_rfl⟩
theorem ti186 : TI Tryz.prog 186 256 1024 true (List.replicate 256 (.int .u32 0)) := ⟨by kernel_rfl, by kernel_rfl⟩
theorem fd24_0 : fieldIn Tryz.prog 24 0 = some (0, 1) := by kernel_rfl
theorem fd27_0 : fieldIn Tryz.prog 27 0 = some (0, 1) := by kernel_rfl
theorem fd36_0 : fieldIn Tryz.prog 36 0 = some (0, 1) := by kernel_rfl
theorem fd47_0 : fieldIn Tryz.prog 47 0 = some (0, 1) := by kernel_rfl
theorem fd47_1 : fieldIn Tryz.prog 47 1 = some (1, 1) := by kernel_rfl
theorem fd47_2 : fieldIn Tryz.prog 47 2 = some (2, 1) := by kernel_rfl
theorem fd47_3 : fieldIn Tryz.prog 47 3 = some (3, 1) := by kernel_rfl
theorem fd53_0 : fieldIn Tryz.prog 53 0 = some (0, 1) := by kernel_rfl
theorem fd53_1 : fieldIn Tryz.prog 53 1 = some (1, 1) := by kernel_rfl
theorem fd53_2 : fieldIn Tryz.prog 53 2 = some (2, 1) := by kernel_rfl
theorem fd79_0 : fieldIn Tryz.prog 79 0 = some (0, 1) := by kernel_rfl
theorem fd79_1 : fieldIn Tryz.prog 79 1 = some (1, 1) := by kernel_rfl
theorem fd89_0 : fieldIn Tryz.prog 89 0 = some (0, 1) := by kernel_rfl
theorem fd89_1 : fieldIn Tryz.prog 89 1 = some (1, 1) := by kernel_rfl
theorem fd89_2 : fieldIn Tryz.prog 89 2 = some (2, 1) := by kernel_rfl
theorem fd89_3 : fieldIn Tryz.prog 89 3 = some (3, 1) := by kernel_rfl
theorem fd97_0 : fieldIn Tryz.prog 97 0 = some (0, 1) := by kernel_rfl
theorem fd97_1 : fieldIn Tryz.prog 97 1 = some (1, 1) := by kernel_rfl
theorem fd145_0 : fieldIn Tryz.prog 145 0 = some (0, 1) := by kernel_rfl
theorem fd145_1 : fieldIn Tryz.prog 145 1 = some (1, 1) := by kernel_rfl
theorem fs24 : fieldsIn Tryz.prog 24 = some [(0, 1)] := by kernel_rfl
theorem fs27 : fieldsIn Tryz.prog 27 = some [(0, 1)] := by kernel_rfl
theorem fs36 : fieldsIn Tryz.prog 36 = some [(0, 1)] := by kernel_rfl
theorem fs53 : fieldsIn Tryz.prog 53 = some [(0, 1), (1, 1), (2, 1)] := by kernel_rfl
theorem fs79 : fieldsIn Tryz.prog 79 = some [(0, 1), (1, 1)] := by kernel_rfl
theorem fs89 : fieldsIn Tryz.prog 89 = some [(0, 1), (1, 1), (2, 1), (3, 1)] := by kernel_rfl
theorem fs97 : fieldsIn Tryz.prog 97 = some [(0, 1), (1, 1), (2, 1)] := by kernel_rfl
theorem cb9 : callableB Tryz.prog 9 = true := by kernel_rfl
theorem cb10 : callableB Tryz.prog 10 = true := by kernel_rfl
theorem cb11 : callableB Tryz.prog 11 = true := by kernel_rfl
theorem cb12 : callableB Tryz.prog 12 = true := by kernel_rfl
theorem cb17 : callableB Tryz.prog 17 = true := by kernel_rfl
theorem cb18 : callableB Tryz.prog 18 = true := by kernel_rfl
theorem cb21 : callableB Tryz.prog 21 = true := by kernel_rfl
theorem cb23 : callableB Tryz.prog 23 = true := by kernel_rfl
theorem cb27 : callableB Tryz.prog 27 = true := by kernel_rfl
theorem cb28 : callableB Tryz.prog 28 = true := by kernel_rfl
theorem cb29 : callableB Tryz.prog 29 = true := by kernel_rfl
theorem cb30 : callableB Tryz.prog 30 = true := by kernel_rfl
theorem cb32 : callableB Tryz.prog 32 = true := by kernel_rfl
theorem cb37 : callableB Tryz.prog 37 = true := by kernel_rfl
theorem cb38 : callableB Tryz.prog 38 = true := by kernel_rfl
theorem cb39 : callableB Tryz.prog 39 = true := by kernel_rfl
theorem cb40 : callableB Tryz.prog 40 = true := by kernel_rfl
theorem cb41 : callableB Tryz.prog 41 = true := by kernel_rfl
theorem cb42 : callableB Tryz.prog 42 = true := by kernel_rfl
theorem cb43 : callableB Tryz.prog 43 = true := by kernel_rfl
theorem cb44 : callableB Tryz.prog 44 = true := by kernel_rfl
theorem cb48 : callableB Tryz.prog 48 = true := by kernel_rfl
theorem cb50 : callableB Tryz.prog 50 = true := by kernel_rfl
theorem cb51 : callableB Tryz.prog 51 = true := by kernel_rfl
theorem cb52 : callableB Tryz.prog 52 = true := by kernel_rfl
theorem cb55 : callableB Tryz.prog 55 = true := by kernel_rfl
theorem cb56 : callableB Tryz.prog 56 = true := by kernel_rfl
theorem cb57 : callableB Tryz.prog 57 = true := by kernel_rfl
theorem cb58 : callableB Tryz.prog 58 = true := by kernel_rfl
theorem cb59 : callableB Tryz.prog 59 = true := by kernel_rfl
theorem cb60 : callableB Tryz.prog 60 = true := by kernel_rfl
theorem cb61 : callableB Tryz.prog 61 = true := by kernel_rfl
theorem cb62 : callableB Tryz.prog 62 = true := by kernel_rfl
theorem cb65 : callableB Tryz.prog 65 = true := by kernel_rfl
theorem cb66 : callableB Tryz.prog 66 = true := by kernel_rfl
theorem cb67 : callableB Tryz.prog 67 = true := by kernel_rfl
theorem cb68 : callableB Tryz.prog 68 = true := by kernel_rfl
theorem cb69 : callableB Tryz.prog 69 = true := by kernel_rfl
theorem cb70 : callableB Tryz.prog 70 = true := by kernel_rfl
theorem cb71 : callableB Tryz.prog 71 = true := by kernel_rfl
theorem cb78 : callableB Tryz.prog 78 = true := by kernel_rfl
theorem cb79 : callableB Tryz.prog 79 = true := by kernel_rfl
theorem cb82 : callableB Tryz.prog 82 = true := by kernel_rfl
theorem cb83 : callableB Tryz.prog 83 = true := by kernel_rfl
theorem cb84 : callableB Tryz.prog 84 = true := by kernel_rfl
theorem cb85 : callableB Tryz.prog 85 = true := by kernel_rfl
theorem cb86 : callableB Tryz.prog 86 = true := by kernel_rfl
theorem cb88 : callableB Tryz.prog 88 = true := by kernel_rfl
theorem cb89 : callableB Tryz.prog 89 = true := by kernel_rfl
theorem cb90 : callableB Tryz.prog 90 = true := by kernel_rfl
theorem cb91 : callableB Tryz.prog 91 = true := by kernel_rfl
theorem cb92 : callableB Tryz.prog 92 = true := by kernel_rfl
theorem cb93 : callableB Tryz.prog 93 = true := by kernel_rfl
theorem cb94 : callableB Tryz.prog 94 = true := by kernel_rfl
theorem cb95 : callableB Tryz.prog 95 = true := by kernel_rfl
theorem cb96 : callableB Tryz.prog 96 = true := by kernel_rfl
theorem cb102 : callableB Tryz.prog 102 = true := by kernel_rfl
theorem cb103 : callableB Tryz.prog 103 = true := by kernel_rfl
theorem cb106 : callableB Tryz.prog 106 = true := by kernel_rfl
theorem cb107 : callableB Tryz.prog 107 = true := by kernel_rfl
theorem cb108 : callableB Tryz.prog 108 = true := by kernel_rfl
theorem cb109 : callableB Tryz.prog 109 = true := by kernel_rfl
theorem cb110 : callableB Tryz.prog 110 = true := by kernel_rfl
theorem cb111 : callableB Tryz.prog 111 = true := by kernel_rfl
theorem cb112 : callableB Tryz.prog 112 = true := by kernel_rfl
theorem cb113 : callableB Tryz.prog 113 = true := by kernel_rfl
theorem cb114 : callableB Tryz.prog 114 = true := by kernel_rfl
theorem cb115 : callableB Tryz.prog 115 = true := by kernel_rfl
theorem cb116 : callableB Tryz.prog 116 = true := by kernel_rfl
theorem cb117 : callableB Tryz.prog 117 = true := by kernel_rfl
theorem cb118 : callableB Tryz.prog 118 = true := by kernel_rfl
theorem cb121 : callableB Tryz.prog 121 = true := by kernel_rfl
theorem cb132 : callableB Tryz.prog 132 = true := by kernel_rfl
theorem cb133 : callableB Tryz.prog 133 = true := by kernel_rfl
theorem cb134 : callableB Tryz.prog 134 = true := by kernel_rfl
theorem cb135 : callableB Tryz.prog 135 = true := by kernel_rfl
theorem cb136 : callableB Tryz.prog 136 = true := by kernel_rfl
theorem cb137 : callableB Tryz.prog 137 = true := by kernel_rfl
theorem cb144 : callableB Tryz.prog 144 = true := by kernel_rfl
theorem cb145 : callableB Tryz.prog 145 = true := by kernel_rfl
theorem cb146 : callableB Tryz.prog 146 = true := by kernel_rfl
theorem cb147 : callableB Tryz.prog 147 = true := by kernel_rfl
theorem cb148 : callableB Tryz.prog 148 = true := by kernel_rfl
theorem cb149 : callableB Tryz.prog 149 = true := by kernel_rfl
theorem cb150 : callableB Tryz.prog 150 = true := by kernel_rfl
theorem cb156 : callableB Tryz.prog 156 = true := by kernel_rfl
theorem cb157 : callableB Tryz.prog 157 = true := by kernel_rfl
theorem cb158 : callableB Tryz.prog 158 = true := by kernel_rfl
theorem cb159 : callableB Tryz.prog 159 = true := by kernel_rfl
theorem cb160 : callableB Tryz.prog 160 = true := by kernel_rfl
theorem cb168 : callableB Tryz.prog 168 = true := by kernel_rfl
theorem cb169 : callableB Tryz.prog 169 = true := by kernel_rfl
theorem zv3 : ZV Tryz.prog 3 (.int .i64 0) := (show (Tryz.prog.info? 3).bind (fun i => i.zero) = some (.int .i64 0) by kernel_rfl)
theorem eqr89 : EqAtR Tryz.prog 89 rpDValue 2 := eqr_struct (n := 1) (fs := [(3, 0, false), (2, 1, false), (87, 2, false), (9, 3, false)]) (by kernel_rfl) (by kernel_rfl) rfl (EFs.cons ti3 rfl rfl flDValue_0 (EqAtR.up (eqr_int (n := 0) Tryz.underlying3) 0) (EFs.cons ti2 rfl rfl flDValue_1 (EqAtR.up (eqr_int (n := 0) Tryz.underlying2) 0) (EFs.cons ti87 rfl rfl flDValue_2 (EqAtR.up (eqr_int (n := 0) Tryz.underlying87) 0) (EFs.cons ti9 rfl rfl flDValue_3 (EqAtR.up (eqr_str (n := 0) Tryz.underlying9) 0) EFs.nil)))) (fun x y => by cases x; cases y; simp [Bool.decide_and])
theorem eq89 : EqD Tryz.prog 89 rpDValue := EqD.of (by kernel_rfl) (EqAtR.up eqr89 18)
theorem eqr97 : EqAtR Tryz.prog 97 rpDcell 2 := eqr_struct (n := 1) (fs := [(3, 0, false), (3, 1, false), (3, 2, false)]) (by kernel_rfl) (by kernel_rfl) rfl (EFs.cons ti3 rfl rfl flDcell_0 (EqAtR.up (eqr_int (n := 0) Tryz.underlying3) 0) (EFs.cons ti3 rfl rfl flDcell_1 (EqAtR.up (eqr_int (n := 0) Tryz.underlying3) 0) (EFs.cons ti3 rfl rfl flDcell_2 (EqAtR.up (eqr_int (n := 0) Tryz.underlying3) 0) EFs.nil))) (fun x y => by cases x; cases y; simp [Bool.decide_and])
theorem eq97 : EqD Tryz.prog 97 rpDcell := EqD.of (by kernel_rfl) (EqAtR.up eqr97 18)
theorem upX : Go.Proofs.Builder.Extra Tryz.prog Tryz.upper110_ren := { sizeBuilder := by kernel_rfl, liesBuilder := by kernel_rfl, t5 := Tryz.underlying5, a5 := Tryz.isAgg5, z5 := Tryz.sizeOf5, v5 := Tryz.zeroValue5, infoByte := by kernel_rfl, cellsByte := by kernel_rfl, sizeByte := by kernel_rfl, neB5 := by decide }

end Go.Proofs.YtegigakgcnhiaaaGreatDoor

