/- Facts of this claim: T. -/
import Derived.Test.YtegigakgcnhiaaaGreatDoorLdD
import Derived.Test.YtegigakgcnhiaaaGreatDoorProg
import Derived.Test.YtegigakgcnhiaaaGreatDoorLdS
import Derived.Test.YtegigakgcnhiaaaGreatDoorLdV4
import Derived.Shelf.Strings.CaseAny
import Derived.KernelRfl
namespace Go.Proofs.YtegigakgcnhiaaaGreatDoor
open Go

theorem mixed : Tryz.prog.follows .mixedOrders = true := by kernel_rfl
theorem ti2 : TI Tryz.prog 2 1 8 false [.int .i64 0] := ⟨by kernel_rfl, by kernel_rfl⟩
theorem ti3 : TI Tryz.prog 3 1 8 false [.int .i64 0] := ⟨by kernel_rfl, by kernel_rfl⟩
theorem ti4 : TI Tryz.prog 4 1 1 false [.bool false] := ⟨by kernel_rfl, by kernel_rfl⟩
theorem ti5 : TI Tryz.prog 5 1 1 false [.int .u8 0] := ⟨by kernel_rfl, by kernel_rfl⟩
theorem ti9 : TI Tryz.prog 9 1 16 false [.string ⟨#[]⟩] := ⟨by kernel_rfl, by kernel_rfl⟩
theorem iR : TI Tryz.prog 22 1 24 false [.slice none 0 0] := ⟨by kernel_rfl, by kernel_rfl⟩
theorem f9 : TI Tryz.prog 24 1 24 true [.slice none 0 0] := ⟨by kernel_rfl, by kernel_rfl⟩
theorem fy : TI Tryz.prog 25 1 24 false [.slice none 0 0] := ⟨by kernel_rfl, by kernel_rfl⟩
theorem cd : TI Tryz.prog 27 1 24 true [.slice none 0 0] := ⟨by kernel_rfl, by kernel_rfl⟩
theorem ti28 : TI Tryz.prog 28 1 24 false [.slice none 0 0] := ⟨by kernel_rfl, by kernel_rfl⟩
theorem fx : TI Tryz.prog 34 1 24 false [.slice none 0 0] := ⟨by kernel_rfl, by kernel_rfl⟩
theorem cv : TI Tryz.prog 36 1 24 true [.slice none 0 0] := ⟨by kernel_rfl, by kernel_rfl⟩
theorem cr : TI Tryz.prog 45 1 24 false [.slice none 0 0] := ⟨by kernel_rfl, by kernel_rfl⟩
theorem ti51 : TI Tryz.prog 51 1 24 false [.slice none 0 0] := ⟨by kernel_rfl, by kernel_rfl⟩
theorem fu : TI Tryz.prog 53 3 64 true [.string ⟨#[]⟩, .slice none 0 0, .slice none 0 0] := ⟨by kernel_rfl, by kernel_rfl⟩
theorem cM : TI Tryz.prog 54 1 24 false [.slice none 0 0] := ⟨by kernel_rfl, by kernel_rfl⟩
theorem f8 : TI Tryz.prog 79 2 24 true [.string ⟨#[]⟩, .int .i64 0] := ⟨by kernel_rfl, by kernel_rfl⟩
theorem ti87 : TI Tryz.prog 87 1 8 false [.int .u64 0] := ⟨by kernel_rfl, by kernel_rfl⟩
theorem b9 : TI Tryz.prog 89 4 40 true [.int .i64 0, .int .i64 0, .int .u64 0, .string ⟨#[]⟩] := ⟨by kernel_rfl, by kernel_rfl⟩
theorem ir : TI Tryz.prog 91 1 4 false [.int .u32 0] := ⟨by kernel_rfl, by kernel_rfl⟩
theorem ti97 : TI Tryz.prog 97 3 24 true [.int .i64 0, .int .i64 0, .int .i64 0] := ⟨by kernel_rfl, by kernel_rfl⟩
theorem ti110 : TI Tryz.prog 110 1 8 false [.nilFunc] := ⟨by kernel_rfl, by kernel_rfl⟩
theorem ti126 : TI Tryz.prog 126 1 8 false [.nilFunc] := ⟨by kernel_rfl, by kernel_rfl⟩
theorem ti137 : TI Tryz.prog 137 1 8 false [.map none] := ⟨by kernel_rfl, by kernel_rfl⟩
theorem ti145 : TI Tryz.prog 145 2 24 true [.string ⟨#[]⟩, .int .i64 0] := ⟨by kernel_rfl, by kernel_rfl⟩
theorem ti146 : TI Tryz.prog 146 6 72 true [.string ⟨#[]⟩, .int .i64 0, .string ⟨#[]⟩, .int .i64 0, .string ⟨#[]⟩, .int .i64 0] := ⟨by kernel_rfl, by kernel_rfl⟩
theorem ti186 : TI Tryz.prog 186 256 1024 true (List.replicate 256 (.int .u32 0)) := ⟨by kernel_rfl, by kernel_rfl⟩
theorem dl : ci Tryz.prog 24 0 = some (0, 1) := by kernel_rfl
theorem ce : ci Tryz.prog 27 0 = some (0, 1) := by kernel_rfl
theorem ck : ci Tryz.prog 36 0 = some (0, 1) := by kernel_rfl
theorem fd53_0 : ci Tryz.prog 53 0 = some (0, 1) := by kernel_rfl
theorem fl : ci Tryz.prog 53 1 = some (1, 1) := by kernel_rfl
theorem ik : ci Tryz.prog 53 2 = some (2, 1) := by kernel_rfl
theorem fd79_0 : ci Tryz.prog 79 0 = some (0, 1) := by kernel_rfl
theorem fd79_1 : ci Tryz.prog 79 1 = some (1, 1) := by kernel_rfl
theorem ev : ci Tryz.prog 89 0 = some (0, 1) := by kernel_rfl
theorem fO : ci Tryz.prog 89 1 = some (1, 1) := by kernel_rfl
theorem ij : ci Tryz.prog 89 2 = some (2, 1) := by kernel_rfl
theorem eR : ci Tryz.prog 89 3 = some (3, 1) := by kernel_rfl
theorem fd97_0 : ci Tryz.prog 97 0 = some (0, 1) := by kernel_rfl
theorem fd97_1 : ci Tryz.prog 97 1 = some (1, 1) := by kernel_rfl
theorem fd145_0 : ci Tryz.prog 145 0 = some (0, 1) := by kernel_rfl
theorem fd145_1 : ci Tryz.prog 145 1 = some (1, 1) := by kernel_rfl
theorem fs24 : gw Tryz.prog 24 = some [(0, 1)] := by kernel_rfl
theorem fs27 : gw Tryz.prog 27 = some [(0, 1)] := by kernel_rfl
theorem fs36 : gw Tryz.prog 36 = some [(0, 1)] := by kernel_rfl
theorem fs53 : gw Tryz.prog 53 = some [(0, 1), (1, 1), (2, 1)] := by kernel_rfl
theorem fs79 : gw Tryz.prog 79 = some [(0, 1), (1, 1)] := by kernel_rfl
theorem fs89 : gw Tryz.prog 89 = some [(0, 1), (1, 1), (2, 1), (3, 1)] := by kernel_rfl
theorem fs97 : gw Tryz.prog 97 = some [(0, 1), (1, 1), (2, 1)] := by kernel_rfl
theorem cb9 : an Tryz.prog 9 = true := by kernel_rfl
theorem cb10 : an Tryz.prog 10 = true := by kernel_rfl
theorem cb11 : an Tryz.prog 11 = true := by kernel_rfl
theorem cb12 : an Tryz.prog 12 = true := by kernel_rfl
theorem cb13 : an Tryz.prog 13 = true := by kernel_rfl
theorem cb14 : an Tryz.prog 14 = true := by kernel_rfl
theorem cb15 : an Tryz.prog 15 = true := by kernel_rfl
theorem cb17 : an Tryz.prog 17 = true := by kernel_rfl
theorem cb19 : an Tryz.prog 19 = true := by kernel_rfl
theorem cb20 : an Tryz.prog 20 = true := by kernel_rfl
theorem cb21 : an Tryz.prog 21 = true := by kernel_rfl
theorem cb24 : an Tryz.prog 24 = true := by kernel_rfl
theorem cb25 : an Tryz.prog 25 = true := by kernel_rfl
theorem cb27 : an Tryz.prog 27 = true := by kernel_rfl
theorem cb28 : an Tryz.prog 28 = true := by kernel_rfl
theorem cb29 : an Tryz.prog 29 = true := by kernel_rfl
theorem cb30 : an Tryz.prog 30 = true := by kernel_rfl
theorem cb31 : an Tryz.prog 31 = true := by kernel_rfl
theorem cb32 : an Tryz.prog 32 = true := by kernel_rfl
theorem cb33 : an Tryz.prog 33 = true := by kernel_rfl
theorem cb34 : an Tryz.prog 34 = true := by kernel_rfl
theorem cb35 : an Tryz.prog 35 = true := by kernel_rfl
theorem cb36 : an Tryz.prog 36 = true := by kernel_rfl
theorem cb37 : an Tryz.prog 37 = true := by kernel_rfl
theorem cb38 : an Tryz.prog 38 = true := by kernel_rfl
theorem cb39 : an Tryz.prog 39 = true := by kernel_rfl
theorem cb40 : an Tryz.prog 40 = true := by kernel_rfl
theorem cb41 : an Tryz.prog 41 = true := by kernel_rfl
theorem cb42 : an Tryz.prog 42 = true := by kernel_rfl
theorem cb43 : an Tryz.prog 43 = true := by kernel_rfl
theorem cb44 : an Tryz.prog 44 = true := by kernel_rfl
theorem cb45 : an Tryz.prog 45 = true := by kernel_rfl
theorem cb46 : an Tryz.prog 46 = true := by kernel_rfl
theorem cb49 : an Tryz.prog 49 = true := by kernel_rfl
theorem cb50 : an Tryz.prog 50 = true := by kernel_rfl
theorem cb51 : an Tryz.prog 51 = true := by kernel_rfl
theorem cb52 : an Tryz.prog 52 = true := by kernel_rfl
theorem cb53 : an Tryz.prog 53 = true := by kernel_rfl
theorem cb54 : an Tryz.prog 54 = true := by kernel_rfl
theorem cb55 : an Tryz.prog 55 = true := by kernel_rfl
theorem cb56 : an Tryz.prog 56 = true := by kernel_rfl
theorem cb57 : an Tryz.prog 57 = true := by kernel_rfl
theorem cb58 : an Tryz.prog 58 = true := by kernel_rfl
theorem cb59 : an Tryz.prog 59 = true := by kernel_rfl
theorem cb60 : an Tryz.prog 60 = true := by kernel_rfl
theorem cb61 : an Tryz.prog 61 = true := by kernel_rfl
theorem cb62 : an Tryz.prog 62 = true := by kernel_rfl
theorem cb63 : an Tryz.prog 63 = true := by kernel_rfl
theorem cb64 : an Tryz.prog 64 = true := by kernel_rfl
theorem cb65 : an Tryz.prog 65 = true := by kernel_rfl
theorem cb66 : an Tryz.prog 66 = true := by kernel_rfl
theorem cb67 : an Tryz.prog 67 = true := by kernel_rfl
theorem cb68 : an Tryz.prog 68 = true := by kernel_rfl
theorem cb69 : an Tryz.prog 69 = true := by kernel_rfl
theorem cb70 : an Tryz.prog 70 = true := by kernel_rfl
theorem cb71 : an Tryz.prog 71 = true := by kernel_rfl
theorem cb72 : an Tryz.prog 72 = true := by kernel_rfl
theorem cb73 : an Tryz.prog 73 = true := by kernel_rfl
theorem cb74 : an Tryz.prog 74 = true := by kernel_rfl
theorem cb75 : an Tryz.prog 75 = true := by kernel_rfl
theorem cb76 : an Tryz.prog 76 = true := by kernel_rfl
theorem cb77 : an Tryz.prog 77 = true := by kernel_rfl
theorem cb78 : an Tryz.prog 78 = true := by kernel_rfl
theorem cb79 : an Tryz.prog 79 = true := by kernel_rfl
theorem cb80 : an Tryz.prog 80 = true := by kernel_rfl
theorem cb81 : an Tryz.prog 81 = true := by kernel_rfl
theorem cb82 : an Tryz.prog 82 = true := by kernel_rfl
theorem cb83 : an Tryz.prog 83 = true := by kernel_rfl
theorem cb84 : an Tryz.prog 84 = true := by kernel_rfl
theorem cb85 : an Tryz.prog 85 = true := by kernel_rfl
theorem cb86 : an Tryz.prog 86 = true := by kernel_rfl
theorem cb87 : an Tryz.prog 87 = true := by kernel_rfl
theorem cb88 : an Tryz.prog 88 = true := by kernel_rfl
theorem cb89 : an Tryz.prog 89 = true := by kernel_rfl
theorem cb90 : an Tryz.prog 90 = true := by kernel_rfl
theorem cb91 : an Tryz.prog 91 = true := by kernel_rfl
theorem cb92 : an Tryz.prog 92 = true := by kernel_rfl
theorem cb93 : an Tryz.prog 93 = true := by kernel_rfl
theorem cb94 : an Tryz.prog 94 = true := by kernel_rfl
theorem cb95 : an Tryz.prog 95 = true := by kernel_rfl
theorem cb96 : an Tryz.prog 96 = true := by kernel_rfl
theorem cb97 : an Tryz.prog 97 = true := by kernel_rfl
theorem cb98 : an Tryz.prog 98 = true := by kernel_rfl
theorem cb99 : an Tryz.prog 99 = true := by kernel_rfl
theorem cb100 : an Tryz.prog 100 = true := by kernel_rfl
theorem cb101 : an Tryz.prog 101 = true := by kernel_rfl
theorem cb102 : an Tryz.prog 102 = true := by kernel_rfl
theorem cb103 : an Tryz.prog 103 = true := by kernel_rfl
theorem cb106 : an Tryz.prog 106 = true := by kernel_rfl
theorem cb107 : an Tryz.prog 107 = true := by kernel_rfl
theorem cb108 : an Tryz.prog 108 = true := by kernel_rfl
theorem cb109 : an Tryz.prog 109 = true := by kernel_rfl
theorem cb110 : an Tryz.prog 110 = true := by kernel_rfl
theorem cb111 : an Tryz.prog 111 = true := by kernel_rfl
theorem cb112 : an Tryz.prog 112 = true := by kernel_rfl
theorem cb113 : an Tryz.prog 113 = true := by kernel_rfl
theorem cb114 : an Tryz.prog 114 = true := by kernel_rfl
theorem cb115 : an Tryz.prog 115 = true := by kernel_rfl
theorem cb116 : an Tryz.prog 116 = true := by kernel_rfl
theorem cb117 : an Tryz.prog 117 = true := by kernel_rfl
theorem cb118 : an Tryz.prog 118 = true := by kernel_rfl
theorem cb119 : an Tryz.prog 119 = true := by kernel_rfl
theorem cb120 : an Tryz.prog 120 = true := by kernel_rfl
theorem cb121 : an Tryz.prog 121 = true := by kernel_rfl
theorem cb132 : an Tryz.prog 132 = true := by kernel_rfl
theorem cb133 : an Tryz.prog 133 = true := by kernel_rfl
theorem cb134 : an Tryz.prog 134 = true := by kernel_rfl
theorem cb135 : an Tryz.prog 135 = true := by kernel_rfl
theorem cb136 : an Tryz.prog 136 = true := by kernel_rfl
theorem cb137 : an Tryz.prog 137 = true := by kernel_rfl
theorem cb144 : an Tryz.prog 144 = true := by kernel_rfl
theorem cb145 : an Tryz.prog 145 = true := by kernel_rfl
theorem cb146 : an Tryz.prog 146 = true := by kernel_rfl
theorem cb147 : an Tryz.prog 147 = true := by kernel_rfl
theorem cb148 : an Tryz.prog 148 = true := by kernel_rfl
theorem cb149 : an Tryz.prog 149 = true := by kernel_rfl
theorem cb150 : an Tryz.prog 150 = true := by kernel_rfl
theorem cb156 : an Tryz.prog 156 = true := by kernel_rfl
theorem cb157 : an Tryz.prog 157 = true := by kernel_rfl
theorem cb158 : an Tryz.prog 158 = true := by kernel_rfl
theorem cb159 : an Tryz.prog 159 = true := by kernel_rfl
theorem cb160 : an Tryz.prog 160 = true := by kernel_rfl
theorem cb168 : an Tryz.prog 168 = true := by kernel_rfl
theorem cb169 : an Tryz.prog 169 = true := by kernel_rfl
theorem zv3 : ZV Tryz.prog 3 (.int .i64 0) := (show (Tryz.prog.info? 3).bind (fun i => i.zero) = some (.int .i64 0) by kernel_rfl)
theorem eqr89 : EqAtR Tryz.prog 89 rpDValue 2 := eqr_struct (n := 1) (fs := [(3, 0, false), (2, 1, false), (87, 2, false), (9, 3, false)]) (by kernel_rfl) (by kernel_rfl) rfl (EFs.cons ti3 rfl rfl bZ (EqAtR.up (eqr_int (n := 0) Tryz.underlying3) 0) (EFs.cons ti2 rfl rfl cm (EqAtR.up (eqr_int (n := 0) Tryz.underlying2) 0) (EFs.cons ti87 rfl rfl cP (EqAtR.up (eqr_int (n := 0) Tryz.underlying87) 0) (EFs.cons ti9 rfl rfl bQ (EqAtR.up (eqr_str (n := 0) Tryz.underlying9) 0) EFs.nil)))) (fun x y => by cases x; cases y; simp [Bool.decide_and])
theorem eq89 : EqD Tryz.prog 89 rpDValue := EqD.of (by kernel_rfl) (EqAtR.up eqr89 18)
theorem upX : Go.Proofs.Builder.Extra Tryz.prog ez := { sizeBuilder := by kernel_rfl, liesBuilder := by kernel_rfl, t5 := Tryz.underlying5, a5 := Tryz.isAgg5, z5 := Tryz.sizeOf5, v5 := Tryz.zeroValue5, infoByte := by kernel_rfl, cellsByte := by kernel_rfl, sizeByte := by kernel_rfl, neB5 := by decide }

end Go.Proofs.YtegigakgcnhiaaaGreatDoor

