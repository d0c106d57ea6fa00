/- The tables of the program, each proved to be the program own. No condition. -/
import Derived.Test.YtbaoelfpmdmhjaaEngineC
import Derived.KernelRfl
import Derived.Test.YtbaoelfpmdmhjaaProg
set_option maxRecDepth 100000
namespace Go.Proofs.Ytbaoelfpmdmhjaa
open Go.Ai
noncomputable def codeOf (f : Func) : Code := match f.body with | some c => c | none => .skip
noncomputable def descOf (P : Program) (t : Nat) : TypeDesc := match P.underlying t with | some d => d | none => .invalid
noncomputable def ti1 : TI := ⟨descOf Try.prog 1, 1, 8, [.nilFunc], false, [], true⟩
theorem ti1_ok : TIok Try.prog 1 ti1 := tiOk_of (z := .nilFunc) (by kernel_rfl)
noncomputable def ti2 : TI := ⟨descOf Try.prog 2, 1, 8, [.int .i64 (0)], false, [], true⟩
theorem ti2_ok : TIok Try.prog 2 ti2 := tiOk_of (z := .int .i64 (0)) (by kernel_rfl)
noncomputable def ti3 : TI := ⟨descOf Try.prog 3, 1, 8, [.int .i64 (0)], false, [], true⟩
theorem ti3_ok : TIok Try.prog 3 ti3 := tiOk_of (z := .int .i64 (0)) (by kernel_rfl)
noncomputable def ti4 : TI := ⟨descOf Try.prog 4, 1, 1, [.bool false], false, [], true⟩
theorem ti4_ok : TIok Try.prog 4 ti4 := tiOk_of (z := .bool false) (by kernel_rfl)
noncomputable def ti5 : TI := ⟨descOf Try.prog 5, 1, 1, [.int .u8 (0)], false, [], true⟩
theorem ti5_ok : TIok Try.prog 5 ti5 := tiOk_of (z := .int .u8 (0)) (by kernel_rfl)
noncomputable def ti6 : TI := ⟨descOf Try.prog 6, 1, 1, [.int .u8 (0)], false, [], true⟩
theorem ti6_ok : TIok Try.prog 6 ti6 := tiOk_of (z := .int .u8 (0)) (by kernel_rfl)
noncomputable def ti7 : TI := ⟨descOf Try.prog 7, 4, 24, [.int .i64 (0), .int .i64 (0), .bool false, .int .u8 (0)], true, [(0, 1), (1, 1), (2, 1), (3, 1)], true⟩
theorem ti7_ok : TIok Try.prog 7 ti7 := tiOk_of (z := .agg #[.int .i64 (0), .int .i64 (0), .bool false, .int .u8 (0)]) (by kernel_rfl)
noncomputable def ti8 : TI := ⟨descOf Try.prog 8, 4, 24, [.int .i64 (0), .int .i64 (0), .bool false, .int .u8 (0)], true, [(0, 1), (1, 1), (2, 1), (3, 1)], true⟩
theorem ti8_ok : TIok Try.prog 8 ti8 := tiOk_of (z := .agg #[.int .i64 (0), .int .i64 (0), .bool false, .int .u8 (0)]) (by kernel_rfl)
noncomputable def ti9 : TI := ⟨descOf Try.prog 9, 1, 16, [.string ⟨#[]⟩], false, [], true⟩
theorem ti9_ok : TIok Try.prog 9 ti9 := tiOk_of (z := .string ⟨#[]⟩) (by kernel_rfl)
noncomputable def ti10 : TI := ⟨descOf Try.prog 10, 1, 16, [.string ⟨#[]⟩], false, [], true⟩
theorem ti10_ok : TIok Try.prog 10 ti10 := tiOk_of (z := .string ⟨#[]⟩) (by kernel_rfl)
noncomputable def ti11 : TI := ⟨descOf Try.prog 11, 1, 16, [.string ⟨#[]⟩], false, [], true⟩
theorem ti11_ok : TIok Try.prog 11 ti11 := tiOk_of (z := .string ⟨#[]⟩) (by kernel_rfl)
noncomputable def ti12 : TI := ⟨descOf Try.prog 12, 1, 8, [.int .u64 (0)], false, [], true⟩
theorem ti12_ok : TIok Try.prog 12 ti12 := tiOk_of (z := .int .u64 (0)) (by kernel_rfl)
noncomputable def ti13 : TI := ⟨descOf Try.prog 13, 2, 24, [.string ⟨#[]⟩, .int .u64 (0)], true, [(0, 1), (1, 1)], false⟩
theorem ti13_ok : TIok Try.prog 13 ti13 := tiOk_of (z := .agg #[.string ⟨#[]⟩, .int .u64 (0)]) (by kernel_rfl)
noncomputable def ti14 : TI := ⟨descOf Try.prog 14, 2, 24, [.string ⟨#[]⟩, .int .u64 (0)], true, [(0, 1), (1, 1)], false⟩
theorem ti14_ok : TIok Try.prog 14 ti14 := tiOk_of (z := .agg #[.string ⟨#[]⟩, .int .u64 (0)]) (by kernel_rfl)
noncomputable def ti15 : TI := ⟨descOf Try.prog 15, 1, 8, [.pointer none], false, [], true⟩
theorem ti15_ok : TIok Try.prog 15 ti15 := tiOk_of (z := .pointer none) (by kernel_rfl)
noncomputable def ti16 : TI := ⟨descOf Try.prog 16, 1, 8, [.pointer none], false, [], true⟩
theorem ti16_ok : TIok Try.prog 16 ti16 := tiOk_of (z := .pointer none) (by kernel_rfl)
noncomputable def ti17 : TI := ⟨descOf Try.prog 17, 1, 8, [.pointer none], false, [], true⟩
theorem ti17_ok : TIok Try.prog 17 ti17 := tiOk_of (z := .pointer none) (by kernel_rfl)
noncomputable def ti18 : TI := ⟨descOf Try.prog 18, 1, 8, [.pointer none], true, [(0, 1)], false⟩
theorem ti18_ok : TIok Try.prog 18 ti18 := tiOk_of (z := .agg #[.pointer none]) (by kernel_rfl)
noncomputable def ti19 : TI := ⟨descOf Try.prog 19, 1, 8, [.pointer none], true, [(0, 1)], false⟩
theorem ti19_ok : TIok Try.prog 19 ti19 := tiOk_of (z := .agg #[.pointer none]) (by kernel_rfl)
noncomputable def ti20 : TI := ⟨descOf Try.prog 20, 1, 16, [.nilIface], false, [], true⟩
theorem ti20_ok : TIok Try.prog 20 ti20 := tiOk_of (z := .nilIface) (by kernel_rfl)
noncomputable def ti21 : TI := ⟨descOf Try.prog 21, 1, 4, [.int .i32 (0)], false, [], true⟩
theorem ti21_ok : TIok Try.prog 21 ti21 := tiOk_of (z := .int .i32 (0)) (by kernel_rfl)
noncomputable def ti22 : TI := ⟨descOf Try.prog 22, 1, 8, [.nilFunc], false, [], true⟩
theorem ti22_ok : TIok Try.prog 22 ti22 := tiOk_of (z := .nilFunc) (by kernel_rfl)
noncomputable def ti23 : TI := ⟨descOf Try.prog 23, 1, 8, [.nilFunc], false, [], true⟩
theorem ti23_ok : TIok Try.prog 23 ti23 := tiOk_of (z := .nilFunc) (by kernel_rfl)
noncomputable def ti24 : TI := ⟨descOf Try.prog 24, 1, 24, [.slice none 0 0], false, [], true⟩
theorem ti24_ok : TIok Try.prog 24 ti24 := tiOk_of (z := .slice none 0 0) (by kernel_rfl)
noncomputable def ti25 : TI := ⟨descOf Try.prog 25, 1, 8, [.nilFunc], false, [], true⟩
theorem ti25_ok : TIok Try.prog 25 ti25 := tiOk_of (z := .nilFunc) (by kernel_rfl)
noncomputable def ti26 : TI := ⟨descOf Try.prog 26, 1, 8, [.nilFunc], false, [], true⟩
theorem ti26_ok : TIok Try.prog 26 ti26 := tiOk_of (z := .nilFunc) (by kernel_rfl)
noncomputable def ti28 : TI := ⟨descOf Try.prog 28, 1, 8, [.nilFunc], false, [], true⟩
theorem ti28_ok : TIok Try.prog 28 ti28 := tiOk_of (z := .nilFunc) (by kernel_rfl)
noncomputable def ti29 : TI := ⟨descOf Try.prog 29, 1, 8, [.nilFunc], false, [], true⟩
theorem ti29_ok : TIok Try.prog 29 ti29 := tiOk_of (z := .nilFunc) (by kernel_rfl)
noncomputable def ti31 : TI := ⟨descOf Try.prog 31, 1, 8, [.nilFunc], false, [], true⟩
theorem ti31_ok : TIok Try.prog 31 ti31 := tiOk_of (z := .nilFunc) (by kernel_rfl)
noncomputable def ti32 : TI := ⟨descOf Try.prog 32, 1, 8, [.nilFunc], false, [], true⟩
theorem ti32_ok : TIok Try.prog 32 ti32 := tiOk_of (z := .nilFunc) (by kernel_rfl)
noncomputable def ti33 : TI := ⟨descOf Try.prog 33, 1, 8, [.nilFunc], false, [], true⟩
theorem ti33_ok : TIok Try.prog 33 ti33 := tiOk_of (z := .nilFunc) (by kernel_rfl)
noncomputable def ti34 : TI := ⟨descOf Try.prog 34, 2, 16, [.int .i64 (0), .int .i64 (0)], true, [], true⟩
theorem ti34_ok : TIok Try.prog 34 ti34 := tiOk_of (z := .agg #[.int .i64 (0), .int .i64 (0)]) (by kernel_rfl)
noncomputable def ti35 : TI := ⟨descOf Try.prog 35, 1, 8, [.nilFunc], false, [], true⟩
theorem ti35_ok : TIok Try.prog 35 ti35 := tiOk_of (z := .nilFunc) (by kernel_rfl)
noncomputable def ti36 : TI := ⟨descOf Try.prog 36, 1, 24, [.slice none 0 0], false, [], true⟩
theorem ti36_ok : TIok Try.prog 36 ti36 := tiOk_of (z := .slice none 0 0) (by kernel_rfl)
noncomputable def ti37 : TI := ⟨descOf Try.prog 37, 1, 24, [.slice none 0 0], true, [(0, 1)], true⟩
theorem ti37_ok : TIok Try.prog 37 ti37 := tiOk_of (z := .agg #[.slice none 0 0]) (by kernel_rfl)
noncomputable def ti38 : TI := ⟨descOf Try.prog 38, 1, 24, [.slice none 0 0], true, [(0, 1)], true⟩
theorem ti38_ok : TIok Try.prog 38 ti38 := tiOk_of (z := .agg #[.slice none 0 0]) (by kernel_rfl)
noncomputable def ti39 : TI := ⟨descOf Try.prog 39, 1, 8, [.nilFunc], false, [], true⟩
theorem ti39_ok : TIok Try.prog 39 ti39 := tiOk_of (z := .nilFunc) (by kernel_rfl)
noncomputable def ti40 : TI := ⟨descOf Try.prog 40, 1, 8, [.nilFunc], false, [], true⟩
theorem ti40_ok : TIok Try.prog 40 ti40 := tiOk_of (z := .nilFunc) (by kernel_rfl)
noncomputable def ti41 : TI := ⟨descOf Try.prog 41, 1, 8, [.nilFunc], false, [], true⟩
theorem ti41_ok : TIok Try.prog 41 ti41 := tiOk_of (z := .nilFunc) (by kernel_rfl)
noncomputable def ti42 : TI := ⟨descOf Try.prog 42, 1, 8, [.nilFunc], false, [], true⟩
theorem ti42_ok : TIok Try.prog 42 ti42 := tiOk_of (z := .nilFunc) (by kernel_rfl)
noncomputable def ti43 : TI := ⟨descOf Try.prog 43, 1, 8, [.nilFunc], false, [], true⟩
theorem ti43_ok : TIok Try.prog 43 ti43 := tiOk_of (z := .nilFunc) (by kernel_rfl)
noncomputable def ti44 : TI := ⟨descOf Try.prog 44, 1, 8, [.nilFunc], false, [], true⟩
theorem ti44_ok : TIok Try.prog 44 ti44 := tiOk_of (z := .nilFunc) (by kernel_rfl)
noncomputable def ti45 : TI := ⟨descOf Try.prog 45, 1, 8, [.nilFunc], false, [], true⟩
theorem ti45_ok : TIok Try.prog 45 ti45 := tiOk_of (z := .nilFunc) (by kernel_rfl)
noncomputable def ti46 : TI := ⟨descOf Try.prog 46, 1, 8, [.nilFunc], false, [], true⟩
theorem ti46_ok : TIok Try.prog 46 ti46 := tiOk_of (z := .nilFunc) (by kernel_rfl)
noncomputable def ti47 : TI := ⟨descOf Try.prog 47, 1, 24, [.slice none 0 0], false, [], true⟩
theorem ti47_ok : TIok Try.prog 47 ti47 := tiOk_of (z := .slice none 0 0) (by kernel_rfl)
noncomputable def ti48 : TI := ⟨descOf Try.prog 48, 1, 8, [.nilFunc], false, [], true⟩
theorem ti48_ok : TIok Try.prog 48 ti48 := tiOk_of (z := .nilFunc) (by kernel_rfl)
noncomputable def ti49 : TI := ⟨descOf Try.prog 49, 1, 8, [.nilFunc], false, [], true⟩
theorem ti49_ok : TIok Try.prog 49 ti49 := tiOk_of (z := .nilFunc) (by kernel_rfl)
noncomputable def ti50 : TI := ⟨descOf Try.prog 50, 1, 8, [.nilFunc], false, [], true⟩
theorem ti50_ok : TIok Try.prog 50 ti50 := tiOk_of (z := .nilFunc) (by kernel_rfl)
noncomputable def ti51 : TI := ⟨descOf Try.prog 51, 1, 8, [.nilFunc], false, [], true⟩
theorem ti51_ok : TIok Try.prog 51 ti51 := tiOk_of (z := .nilFunc) (by kernel_rfl)
noncomputable def ti52 : TI := ⟨descOf Try.prog 52, 1, 8, [.nilFunc], false, [], true⟩
theorem ti52_ok : TIok Try.prog 52 ti52 := tiOk_of (z := .nilFunc) (by kernel_rfl)
noncomputable def ti53 : TI := ⟨descOf Try.prog 53, 1, 8, [.pointer none], false, [], true⟩
theorem ti53_ok : TIok Try.prog 53 ti53 := tiOk_of (z := .pointer none) (by kernel_rfl)
noncomputable def ti54 : TI := ⟨descOf Try.prog 54, 1, 8, [.nilFunc], false, [], true⟩
theorem ti54_ok : TIok Try.prog 54 ti54 := tiOk_of (z := .nilFunc) (by kernel_rfl)
noncomputable def ti55 : TI := ⟨descOf Try.prog 55, 1, 8, [.nilFunc], false, [], true⟩
theorem ti55_ok : TIok Try.prog 55 ti55 := tiOk_of (z := .nilFunc) (by kernel_rfl)
noncomputable def ti56 : TI := ⟨descOf Try.prog 56, 1, 8, [.int .u64 (0)], false, [], true⟩
theorem ti56_ok : TIok Try.prog 56 ti56 := tiOk_of (z := .int .u64 (0)) (by kernel_rfl)
noncomputable def ti57 : TI := ⟨descOf Try.prog 57, 1, 8, [.nilFunc], false, [], true⟩
theorem ti57_ok : TIok Try.prog 57 ti57 := tiOk_of (z := .nilFunc) (by kernel_rfl)
noncomputable def ti58 : TI := ⟨descOf Try.prog 58, 1, 8, [.nilFunc], false, [], true⟩
theorem ti58_ok : TIok Try.prog 58 ti58 := tiOk_of (z := .nilFunc) (by kernel_rfl)
noncomputable def ti59 : TI := ⟨descOf Try.prog 59, 1, 8, [.nilFunc], false, [], true⟩
theorem ti59_ok : TIok Try.prog 59 ti59 := tiOk_of (z := .nilFunc) (by kernel_rfl)
noncomputable def ti60 : TI := ⟨descOf Try.prog 60, 1, 8, [.nilFunc], false, [], true⟩
theorem ti60_ok : TIok Try.prog 60 ti60 := tiOk_of (z := .nilFunc) (by kernel_rfl)
noncomputable def ti61 : TI := ⟨descOf Try.prog 61, 1, 8, [.nilFunc], false, [], true⟩
theorem ti61_ok : TIok Try.prog 61 ti61 := tiOk_of (z := .nilFunc) (by kernel_rfl)
noncomputable def ti63 : TI := ⟨descOf Try.prog 63, 1, 8, [.nilFunc], false, [], true⟩
theorem ti63_ok : TIok Try.prog 63 ti63 := tiOk_of (z := .nilFunc) (by kernel_rfl)
noncomputable def ti64 : TI := ⟨descOf Try.prog 64, 1, 8, [.nilFunc], false, [], true⟩
theorem ti64_ok : TIok Try.prog 64 ti64 := tiOk_of (z := .nilFunc) (by kernel_rfl)
noncomputable def ti65 : TI := ⟨descOf Try.prog 65, 1, 8, [.nilFunc], false, [], true⟩
theorem ti65_ok : TIok Try.prog 65 ti65 := tiOk_of (z := .nilFunc) (by kernel_rfl)
noncomputable def ti66 : TI := ⟨descOf Try.prog 66, 1, 8, [.int .i64 (0)], false, [], true⟩
theorem ti66_ok : TIok Try.prog 66 ti66 := tiOk_of (z := .int .i64 (0)) (by kernel_rfl)
noncomputable def ti68 : TI := ⟨descOf Try.prog 68, 1, 8, [.nilFunc], false, [], true⟩
theorem ti68_ok : TIok Try.prog 68 ti68 := tiOk_of (z := .nilFunc) (by kernel_rfl)
noncomputable def ti69 : TI := ⟨descOf Try.prog 69, 1, 8, [.nilFunc], false, [], true⟩
theorem ti69_ok : TIok Try.prog 69 ti69 := tiOk_of (z := .nilFunc) (by kernel_rfl)
noncomputable def ti70 : TI := ⟨descOf Try.prog 70, 1, 8, [.nilFunc], false, [], true⟩
theorem ti70_ok : TIok Try.prog 70 ti70 := tiOk_of (z := .nilFunc) (by kernel_rfl)
noncomputable def ti71 : TI := ⟨descOf Try.prog 71, 1, 8, [.nilFunc], false, [], true⟩
theorem ti71_ok : TIok Try.prog 71 ti71 := tiOk_of (z := .nilFunc) (by kernel_rfl)
noncomputable def ti72 : TI := ⟨descOf Try.prog 72, 1, 8, [.nilFunc], false, [], true⟩
theorem ti72_ok : TIok Try.prog 72 ti72 := tiOk_of (z := .nilFunc) (by kernel_rfl)
noncomputable def ti73 : TI := ⟨descOf Try.prog 73, 1, 4, [.int .u32 (0)], false, [], true⟩
theorem ti73_ok : TIok Try.prog 73 ti73 := tiOk_of (z := .int .u32 (0)) (by kernel_rfl)
noncomputable def ti74 : TI := ⟨descOf Try.prog 74, 1, 8, [.nilFunc], false, [], true⟩
theorem ti74_ok : TIok Try.prog 74 ti74 := tiOk_of (z := .nilFunc) (by kernel_rfl)
noncomputable def ti75 : TI := ⟨descOf Try.prog 75, 1, 8, [.int .u64 (0)], false, [], true⟩
theorem ti75_ok : TIok Try.prog 75 ti75 := tiOk_of (z := .int .u64 (0)) (by kernel_rfl)
noncomputable def ti76 : TI := ⟨descOf Try.prog 76, 1, 8, [.nilFunc], false, [], true⟩
theorem ti76_ok : TIok Try.prog 76 ti76 := tiOk_of (z := .nilFunc) (by kernel_rfl)
noncomputable def ti77 : TI := ⟨descOf Try.prog 77, 1, 8, [.nilFunc], false, [], true⟩
theorem ti77_ok : TIok Try.prog 77 ti77 := tiOk_of (z := .nilFunc) (by kernel_rfl)
noncomputable def ti78 : TI := ⟨descOf Try.prog 78, 1, 8, [.nilFunc], false, [], true⟩
theorem ti78_ok : TIok Try.prog 78 ti78 := tiOk_of (z := .nilFunc) (by kernel_rfl)
noncomputable def ti79 : TI := ⟨descOf Try.prog 79, 3, 16, [.int .i64 (0), .int .u8 (0), .int .u8 (0)], true, [(0, 1), (1, 1), (2, 1)], true⟩
theorem ti79_ok : TIok Try.prog 79 ti79 := tiOk_of (z := .agg #[.int .i64 (0), .int .u8 (0), .int .u8 (0)]) (by kernel_rfl)
noncomputable def ti80 : TI := ⟨descOf Try.prog 80, 3, 16, [.int .i64 (0), .int .u8 (0), .int .u8 (0)], true, [(0, 1), (1, 1), (2, 1)], true⟩
theorem ti80_ok : TIok Try.prog 80 ti80 := tiOk_of (z := .agg #[.int .i64 (0), .int .u8 (0), .int .u8 (0)]) (by kernel_rfl)
noncomputable def ti81 : TI := ⟨descOf Try.prog 81, 1, 8, [.nilFunc], false, [], true⟩
theorem ti81_ok : TIok Try.prog 81 ti81 := tiOk_of (z := .nilFunc) (by kernel_rfl)
noncomputable def ti83 : TI := ⟨descOf Try.prog 83, 1, 8, [.nilFunc], false, [], true⟩
theorem ti83_ok : TIok Try.prog 83 ti83 := tiOk_of (z := .nilFunc) (by kernel_rfl)
noncomputable def ti84 : TI := ⟨descOf Try.prog 84, 1, 8, [.int .u64 (0)], false, [], true⟩
theorem ti84_ok : TIok Try.prog 84 ti84 := tiOk_of (z := .int .u64 (0)) (by kernel_rfl)
noncomputable def ti85 : TI := ⟨descOf Try.prog 85, 1, 8, [.nilFunc], false, [], true⟩
theorem ti85_ok : TIok Try.prog 85 ti85 := tiOk_of (z := .nilFunc) (by kernel_rfl)
noncomputable def ti86 : TI := ⟨descOf Try.prog 86, 1, 8, [.nilFunc], false, [], true⟩
theorem ti86_ok : TIok Try.prog 86 ti86 := tiOk_of (z := .nilFunc) (by kernel_rfl)
noncomputable def ti87 : TI := ⟨descOf Try.prog 87, 1, 8, [.nilFunc], false, [], true⟩
theorem ti87_ok : TIok Try.prog 87 ti87 := tiOk_of (z := .nilFunc) (by kernel_rfl)
noncomputable def ti88 : TI := ⟨descOf Try.prog 88, 1, 8, [.pointer none], false, [], true⟩
theorem ti88_ok : TIok Try.prog 88 ti88 := tiOk_of (z := .pointer none) (by kernel_rfl)
noncomputable def ti89 : TI := ⟨descOf Try.prog 89, 1, 8, [.nilFunc], false, [], true⟩
theorem ti89_ok : TIok Try.prog 89 ti89 := tiOk_of (z := .nilFunc) (by kernel_rfl)
noncomputable def ti90 : TI := ⟨descOf Try.prog 90, 1, 8, [.nilFunc], false, [], true⟩
theorem ti90_ok : TIok Try.prog 90 ti90 := tiOk_of (z := .nilFunc) (by kernel_rfl)
noncomputable def ti91 : TI := ⟨descOf Try.prog 91, 1, 8, [.nilFunc], false, [], true⟩
theorem ti91_ok : TIok Try.prog 91 ti91 := tiOk_of (z := .nilFunc) (by kernel_rfl)
noncomputable def ti92 : TI := ⟨descOf Try.prog 92, 1, 8, [.pointer none], false, [], true⟩
theorem ti92_ok : TIok Try.prog 92 ti92 := tiOk_of (z := .pointer none) (by kernel_rfl)
noncomputable def ti93 : TI := ⟨descOf Try.prog 93, 1, 8, [.nilFunc], false, [], true⟩
theorem ti93_ok : TIok Try.prog 93 ti93 := tiOk_of (z := .nilFunc) (by kernel_rfl)
noncomputable def ti94 : TI := ⟨descOf Try.prog 94, 1, 24, [.slice none 0 0], false, [], true⟩
theorem ti94_ok : TIok Try.prog 94 ti94 := tiOk_of (z := .slice none 0 0) (by kernel_rfl)
noncomputable def ti95 : TI := ⟨descOf Try.prog 95, 1, 8, [.nilFunc], false, [], true⟩
theorem ti95_ok : TIok Try.prog 95 ti95 := tiOk_of (z := .nilFunc) (by kernel_rfl)
noncomputable def ti96 : TI := ⟨descOf Try.prog 96, 4, 40, [.pointer none, .pointer none, .pointer none, .string ⟨#[]⟩], true, [(0, 1), (1, 1), (2, 1), (3, 1)], false⟩
theorem ti96_ok : TIok Try.prog 96 ti96 := tiOk_of (z := .agg #[.pointer none, .pointer none, .pointer none, .string ⟨#[]⟩]) (by kernel_rfl)
noncomputable def ti97 : TI := ⟨descOf Try.prog 97, 4, 40, [.pointer none, .pointer none, .pointer none, .string ⟨#[]⟩], true, [(0, 1), (1, 1), (2, 1), (3, 1)], false⟩
theorem ti97_ok : TIok Try.prog 97 ti97 := tiOk_of (z := .agg #[.pointer none, .pointer none, .pointer none, .string ⟨#[]⟩]) (by kernel_rfl)
noncomputable def ti98 : TI := ⟨descOf Try.prog 98, 0, 0, [], true, [], true⟩
theorem ti98_ok : TIok Try.prog 98 ti98 := tiOk_of (z := .agg #[]) (by kernel_rfl)
noncomputable def ti99 : TI := ⟨descOf Try.prog 99, 0, 0, [], true, [(0, 0)], false⟩
theorem ti99_ok : TIok Try.prog 99 ti99 := tiOk_of (z := .agg #[]) (by kernel_rfl)
noncomputable def ti100 : TI := ⟨descOf Try.prog 100, 0, 0, [], true, [(0, 0)], false⟩
theorem ti100_ok : TIok Try.prog 100 ti100 := tiOk_of (z := .agg #[]) (by kernel_rfl)
noncomputable def ti101 : TI := ⟨descOf Try.prog 101, 1, 8, [.nilFunc], false, [], true⟩
theorem ti101_ok : TIok Try.prog 101 ti101 := tiOk_of (z := .nilFunc) (by kernel_rfl)
noncomputable def ti102 : TI := ⟨descOf Try.prog 102, 1, 1, [.int .u8 (0)], false, [], true⟩
theorem ti102_ok : TIok Try.prog 102 ti102 := tiOk_of (z := .int .u8 (0)) (by kernel_rfl)
noncomputable def ti103 : TI := ⟨descOf Try.prog 103, 1, 1, [.int .u8 (0)], false, [], true⟩
theorem ti103_ok : TIok Try.prog 103 ti103 := tiOk_of (z := .int .u8 (0)) (by kernel_rfl)
noncomputable def ti104 : TI := ⟨descOf Try.prog 104, 1, 8, [.nilFunc], false, [], true⟩
theorem ti104_ok : TIok Try.prog 104 ti104 := tiOk_of (z := .nilFunc) (by kernel_rfl)
noncomputable def ti105 : TI := ⟨descOf Try.prog 105, 1, 8, [.pointer none], false, [], true⟩
theorem ti105_ok : TIok Try.prog 105 ti105 := tiOk_of (z := .pointer none) (by kernel_rfl)
noncomputable def ti106 : TI := ⟨descOf Try.prog 106, 1, 4, [.int .i32 (0)], false, [], true⟩
theorem ti106_ok : TIok Try.prog 106 ti106 := tiOk_of (z := .int .i32 (0)) (by kernel_rfl)
noncomputable def ti107 : TI := ⟨descOf Try.prog 107, 1, 4, [.int .i32 (0)], false, [], true⟩
theorem ti107_ok : TIok Try.prog 107 ti107 := tiOk_of (z := .int .i32 (0)) (by kernel_rfl)
noncomputable def ti108 : TI := ⟨descOf Try.prog 108, 11, 48, [.int .u64 (0), .int .u64 (0), .int .u32 (0), .int .u8 (0), .int .u8 (0), .int .u8 (0), .int .u8 (0), .nilFunc, .pointer none, .int .i32 (0), .int .i32 (0)], true, [(0, 1), (1, 1), (2, 1), (3, 1), (4, 1), (5, 1), (6, 1), (7, 1), (8, 1), (9, 1), (10, 1)], false⟩
theorem ti108_ok : TIok Try.prog 108 ti108 := tiOk_of (z := .agg #[.int .u64 (0), .int .u64 (0), .int .u32 (0), .int .u8 (0), .int .u8 (0), .int .u8 (0), .int .u8 (0), .nilFunc, .pointer none, .int .i32 (0), .int .i32 (0)]) (by kernel_rfl)
noncomputable def ti109 : TI := ⟨descOf Try.prog 109, 11, 48, [.int .u64 (0), .int .u64 (0), .int .u32 (0), .int .u8 (0), .int .u8 (0), .int .u8 (0), .int .u8 (0), .nilFunc, .pointer none, .int .i32 (0), .int .i32 (0)], true, [(0, 1), (1, 1), (2, 1), (3, 1), (4, 1), (5, 1), (6, 1), (7, 1), (8, 1), (9, 1), (10, 1)], false⟩
theorem ti109_ok : TIok Try.prog 109 ti109 := tiOk_of (z := .agg #[.int .u64 (0), .int .u64 (0), .int .u32 (0), .int .u8 (0), .int .u8 (0), .int .u8 (0), .int .u8 (0), .nilFunc, .pointer none, .int .i32 (0), .int .i32 (0)]) (by kernel_rfl)
noncomputable def ti110 : TI := ⟨descOf Try.prog 110, 1, 8, [.pointer none], false, [], true⟩
theorem ti110_ok : TIok Try.prog 110 ti110 := tiOk_of (z := .pointer none) (by kernel_rfl)
noncomputable def fe2 : FE := .body 1 [] (codeOf Try.f2)
noncomputable def fe3 : FE := .body 33 [.tmp 4] (codeOf Try.f3)
noncomputable def fe4 : FE := .body 62 [.tmp 4] (codeOf Try.f4)
noncomputable def fe5 : FE := .body 75 [.tmp 6] (codeOf Try.f5)
noncomputable def fe6 : FE := .body 143 [.tmp 4] (codeOf Try.f6)
noncomputable def fe7 : FE := .body 20 [.tmp 0] (codeOf Try.f7)
noncomputable def fe8 : FE := .body 26 [.tmp 4] (codeOf Try.f8)
noncomputable def fe9 : FE := .body 58 [.tmp 4] (codeOf Try.f9)
noncomputable def fe10 : FE := .body 50 [.tmp 4] (codeOf Try.f10)
noncomputable def fe11 : FE := .body 67 [.tmp 4, .tmp 5] (codeOf Try.f11)
noncomputable def fe12 : FE := .body 79 [.tmp 4, .tmp 5] (codeOf Try.f12)
noncomputable def fe13 : FE := .body 37 [.cell 6 3, .cell 7 3, .cell 8 4] (codeOf Try.f13)
noncomputable def fe14 : FE := .body 57 [.tmp 6, .tmp 7, .tmp 8] (codeOf Try.f14)
noncomputable def fe15 : FE := .body 13 [.tmp 2] (codeOf Try.f15)
noncomputable def fe16 : FE := .body 30 [.tmp 4] (codeOf Try.f16)
noncomputable def fe17 : FE := .body 8 [.tmp 4] (codeOf Try.f17)
noncomputable def fe18 : FE := .body 14 [] (codeOf Try.f18)
noncomputable def fe19 : FE := .body 39 [.tmp 2, .tmp 3] (codeOf Try.f19)
noncomputable def fe20 : FE := .body 14 [] (codeOf Try.f20)
noncomputable def fe21 : FE := .body 10 [.tmp 4] (codeOf Try.f21)
noncomputable def fe22 : FE := .body 12 [.tmp 2] (codeOf Try.f22)
noncomputable def fe23 : FE := .body 7 [.tmp 2] (codeOf Try.f23)
noncomputable def fe24 : FE := .body 35 [.tmp 8] (codeOf Try.f24)
noncomputable def fe25 : FE := .body 16 [.tmp 4] (codeOf Try.f25)
noncomputable def fe26 : FE := .body 22 [.tmp 4] (codeOf Try.f26)
noncomputable def fe27 : FE := .body 24 [.tmp 4] (codeOf Try.f27)
noncomputable def fe28 : FE := .body 8 [.tmp 4] (codeOf Try.f28)
noncomputable def fe29 : FE := .body 10 [.tmp 4] (codeOf Try.f29)
noncomputable def fe30 : FE := .body 21 [.tmp 4] (codeOf Try.f30)
noncomputable def fe31 : FE := .body 32 [.tmp 4] (codeOf Try.f31)
noncomputable def fe32 : FE := .body 4 [.tmp 2] (codeOf Try.f32)
noncomputable def fe33 : FE := .body 14 [.tmp 2] (codeOf Try.f33)
noncomputable def fe34 : FE := .body 6 [.tmp 2] (codeOf Try.f34)
noncomputable def fe35 : FE := .body 143 [.tmp 4] (codeOf Try.f35)
noncomputable def fe36 : FE := .body 148 [] (codeOf Try.f36)
noncomputable def fe37 : FE := .body 8 [.tmp 2] (codeOf Try.f37)
noncomputable def fe38 : FE := .body 43 [.tmp 2] (codeOf Try.f38)
noncomputable def fe39 : FE := .body 24 [.cell 4 3, .cell 5 3, .cell 6 4] (codeOf Try.f39)
noncomputable def fe40 : FE := .body 34 [.tmp 4] (codeOf Try.f40)
noncomputable def fe41 : FE := .body 8 [.tmp 4] (codeOf Try.f41)
noncomputable def fe42 : FE := .body 19 [.tmp 4] (codeOf Try.f42)
noncomputable def fe43 : FE := .body 34 [.tmp 2] (codeOf Try.f43)
noncomputable def fe44 : FE := .body 19 [] (codeOf Try.f44)
noncomputable def fe45 : FE := .body 50 [.tmp 2, .tmp 3] (codeOf Try.f45)
noncomputable def fe47 : FE := .body 6 [.tmp 2] (codeOf Try.f47)
noncomputable def fe48 : FE := .body 81 [.tmp 4] (codeOf Try.f48)
noncomputable def fe49 : FE := .body 53 [] (codeOf Try.f49)
noncomputable def fe50 : FE := .body 60 [] (codeOf Try.f50)
noncomputable def fe51 : FE := .body 67 [] (codeOf Try.f51)
noncomputable def fe52 : FE := .body 63 [.tmp 8, .tmp 9] (codeOf Try.f52)
noncomputable def fe53 : FE := .body 34 [] (codeOf Try.f53)
noncomputable def fe54 : FE := .body 141 [.tmp 8] (codeOf Try.f54)
noncomputable def fe55 : FE := .body 90 [.tmp 10] (codeOf Try.f55)
noncomputable def fe56 : FE := .body 178 [.tmp 10, .tmp 11] (codeOf Try.f56)
noncomputable def fe57 : FE := .body 19 [.tmp 2] (codeOf Try.f57)
noncomputable def fe58 : FE := .body 25 [.tmp 2] (codeOf Try.f58)
noncomputable def fe59 : FE := .body 18 [.tmp 2] (codeOf Try.f59)
noncomputable def fe60 : FE := .body 4 [.tmp 2] (codeOf Try.f60)
noncomputable def fe61 : FE := .body 10 [.tmp 2] (codeOf Try.f61)
noncomputable def fe62 : FE := .count
noncomputable def fe63 : FE := .indexByte
noncomputable def fe64 : FE := .body 43 [.cell 2 80] (codeOf Try.f64)
noncomputable def fe65 : FE := .body 39 [.tmp 2, .tmp 3] (codeOf Try.f65)
noncomputable def fe66 : FE := .body 82 [] (codeOf Try.f66)
noncomputable def fe67 : FE := .body 7 [.tmp 2] (codeOf Try.f67)
noncomputable def fe68 : FE := .body 33 [.tmp 2] (codeOf Try.f68)
noncomputable def fe69 : FE := .body 18 [.tmp 8] (codeOf Try.f69)
noncomputable def fe70 : FE := .body 41 [.tmp 12] (codeOf Try.f70)
noncomputable def fe71 : FE := .body 72 [.tmp 2] (codeOf Try.f71)
noncomputable def fe72 : FE := .body 46 [.tmp 2] (codeOf Try.f72)
noncomputable def fe73 : FE := .body 27 [] (codeOf Try.f73)
noncomputable def fe74 : FE := .body 32 [.tmp 10, .tmp 11] (codeOf Try.f74)
noncomputable def ft : T FE := (.n none (.n none (.n (some fe3) (.n (some fe7) (.n (some fe15) (.n (some fe31) (.n (some fe63) .e .e) .e) (.n (some fe47) .e .e)) (.n (some fe23) (.n (some fe39) (.n (some fe71) .e .e) .e) (.n (some fe55) .e .e))) (.n (some fe11) (.n (some fe19) (.n (some fe35) (.n (some fe67) .e .e) .e) (.n (some fe51) .e .e)) (.n (some fe27) (.n (some fe43) .e .e) (.n (some fe59) .e .e)))) (.n (some fe5) (.n (some fe9) (.n (some fe17) (.n (some fe33) (.n (some fe65) .e .e) .e) (.n (some fe49) .e .e)) (.n (some fe25) (.n (some fe41) (.n (some fe73) .e .e) .e) (.n (some fe57) .e .e))) (.n (some fe13) (.n (some fe21) (.n (some fe37) (.n (some fe69) .e .e) .e) (.n (some fe53) .e .e)) (.n (some fe29) (.n (some fe45) .e .e) (.n (some fe61) .e .e))))) (.n (some fe2) (.n (some fe4) (.n (some fe8) (.n (some fe16) (.n (some fe32) (.n (some fe64) .e .e) .e) (.n (some fe48) .e .e)) (.n (some fe24) (.n (some fe40) (.n (some fe72) .e .e) .e) (.n (some fe56) .e .e))) (.n (some fe12) (.n (some fe20) (.n (some fe36) (.n (some fe68) .e .e) .e) (.n (some fe52) .e .e)) (.n (some fe28) (.n (some fe44) .e .e) (.n (some fe60) .e .e)))) (.n (some fe6) (.n (some fe10) (.n (some fe18) (.n (some fe34) (.n (some fe66) .e .e) .e) (.n (some fe50) .e .e)) (.n (some fe26) (.n (some fe42) (.n (some fe74) .e .e) .e) (.n (some fe58) .e .e))) (.n (some fe14) (.n (some fe22) (.n (some fe38) (.n (some fe70) .e .e) .e) (.n (some fe54) .e .e)) (.n (some fe30) .e (.n (some fe62) .e .e))))))
noncomputable def tt : T TI := (.n none (.n (some ti1) (.n (some ti3) (.n (some ti7) (.n (some ti15) (.n (some ti31) (.n (some ti63) .e .e) (.n (some ti95) .e .e)) (.n (some ti47) (.n (some ti79) .e .e) .e)) (.n (some ti23) (.n (some ti39) (.n (some ti71) .e .e) (.n (some ti103) .e .e)) (.n (some ti55) (.n (some ti87) .e .e) .e))) (.n (some ti11) (.n (some ti19) (.n (some ti35) .e (.n (some ti99) .e .e)) (.n (some ti51) (.n (some ti83) .e .e) .e)) (.n none (.n (some ti43) (.n (some ti75) .e .e) (.n (some ti107) .e .e)) (.n (some ti59) (.n (some ti91) .e .e) .e)))) (.n (some ti5) (.n (some ti9) (.n (some ti17) (.n (some ti33) (.n (some ti65) .e .e) (.n (some ti97) .e .e)) (.n (some ti49) (.n (some ti81) .e .e) .e)) (.n (some ti25) (.n (some ti41) (.n (some ti73) .e .e) (.n (some ti105) .e .e)) (.n (some ti57) (.n (some ti89) .e .e) .e))) (.n (some ti13) (.n (some ti21) (.n (some ti37) (.n (some ti69) .e .e) (.n (some ti101) .e .e)) (.n (some ti53) (.n (some ti85) .e .e) .e)) (.n (some ti29) (.n (some ti45) (.n (some ti77) .e .e) (.n (some ti109) .e .e)) (.n (some ti61) (.n (some ti93) .e .e) .e))))) (.n (some ti2) (.n (some ti4) (.n (some ti8) (.n (some ti16) (.n (some ti32) (.n (some ti64) .e .e) (.n (some ti96) .e .e)) (.n (some ti48) (.n (some ti80) .e .e) .e)) (.n (some ti24) (.n (some ti40) (.n (some ti72) .e .e) (.n (some ti104) .e .e)) (.n (some ti56) (.n (some ti88) .e .e) .e))) (.n (some ti12) (.n (some ti20) (.n (some ti36) (.n (some ti68) .e .e) (.n (some ti100) .e .e)) (.n (some ti52) (.n (some ti84) .e .e) .e)) (.n (some ti28) (.n (some ti44) (.n (some ti76) .e .e) (.n (some ti108) .e .e)) (.n (some ti60) (.n (some ti92) .e .e) .e)))) (.n (some ti6) (.n (some ti10) (.n (some ti18) (.n (some ti34) (.n (some ti66) .e .e) (.n (some ti98) .e .e)) (.n (some ti50) .e .e)) (.n (some ti26) (.n (some ti42) (.n (some ti74) .e .e) (.n (some ti106) .e .e)) (.n (some ti58) (.n (some ti90) .e .e) .e))) (.n (some ti14) (.n (some ti22) (.n (some ti38) (.n (some ti70) .e .e) (.n (some ti102) .e .e)) (.n (some ti54) (.n (some ti86) .e .e) .e)) (.n none (.n (some ti46) (.n (some ti78) .e .e) (.n (some ti110) .e .e)) (.n none (.n (some ti94) .e .e) .e))))))
noncomputable def C : Ctx := ⟨tt, ft, 0⟩
theorem fe2_ok (C : Ctx) : FEok Try.prog C 2 fe2 := .body Try.func2 (by kernel_rfl) (by kernel_rfl) (by kernel_rfl) (by kernel_rfl) (by kernel_rfl)
theorem fe3_ok (C : Ctx) : FEok Try.prog C 3 fe3 := .body Try.func3 (by kernel_rfl) (by kernel_rfl) (by kernel_rfl) (by kernel_rfl) (by kernel_rfl)
theorem fe4_ok (C : Ctx) : FEok Try.prog C 4 fe4 := .body Try.func4 (by kernel_rfl) (by kernel_rfl) (by kernel_rfl) (by kernel_rfl) (by kernel_rfl)
theorem fe5_ok (C : Ctx) : FEok Try.prog C 5 fe5 := .body Try.func5 (by kernel_rfl) (by kernel_rfl) (by kernel_rfl) (by kernel_rfl) (by kernel_rfl)
theorem fe6_ok (C : Ctx) : FEok Try.prog C 6 fe6 := .body Try.func6 (by kernel_rfl) (by kernel_rfl) (by kernel_rfl) (by kernel_rfl) (by kernel_rfl)
theorem fe7_ok (C : Ctx) : FEok Try.prog C 7 fe7 := .body Try.func7 (by kernel_rfl) (by kernel_rfl) (by kernel_rfl) (by kernel_rfl) (by kernel_rfl)
theorem fe8_ok (C : Ctx) : FEok Try.prog C 8 fe8 := .body Try.func8 (by kernel_rfl) (by kernel_rfl) (by kernel_rfl) (by kernel_rfl) (by kernel_rfl)
theorem fe9_ok (C : Ctx) : FEok Try.prog C 9 fe9 := .body Try.func9 (by kernel_rfl) (by kernel_rfl) (by kernel_rfl) (by kernel_rfl) (by kernel_rfl)
theorem fe10_ok (C : Ctx) : FEok Try.prog C 10 fe10 := .body Try.func10 (by kernel_rfl) (by kernel_rfl) (by kernel_rfl) (by kernel_rfl) (by kernel_rfl)
theorem fe11_ok (C : Ctx) : FEok Try.prog C 11 fe11 := .body Try.func11 (by kernel_rfl) (by kernel_rfl) (by kernel_rfl) (by kernel_rfl) (by kernel_rfl)
theorem fe12_ok (C : Ctx) : FEok Try.prog C 12 fe12 := .body Try.func12 (by kernel_rfl) (by kernel_rfl) (by kernel_rfl) (by kernel_rfl) (by kernel_rfl)
theorem fe13_ok (C : Ctx) : FEok Try.prog C 13 fe13 := .body Try.func13 (by kernel_rfl) (by kernel_rfl) (by kernel_rfl) (by kernel_rfl) (by kernel_rfl)
theorem fe14_ok (C : Ctx) : FEok Try.prog C 14 fe14 := .body Try.func14 (by kernel_rfl) (by kernel_rfl) (by kernel_rfl) (by kernel_rfl) (by kernel_rfl)
theorem fe15_ok (C : Ctx) : FEok Try.prog C 15 fe15 := .body Try.func15 (by kernel_rfl) (by kernel_rfl) (by kernel_rfl) (by kernel_rfl) (by kernel_rfl)
theorem fe16_ok (C : Ctx) : FEok Try.prog C 16 fe16 := .body Try.func16 (by kernel_rfl) (by kernel_rfl) (by kernel_rfl) (by kernel_rfl) (by kernel_rfl)
theorem fe17_ok (C : Ctx) : FEok Try.prog C 17 fe17 := .body Try.func17 (by kernel_rfl) (by kernel_rfl) (by kernel_rfl) (by kernel_rfl) (by kernel_rfl)
theorem fe18_ok (C : Ctx) : FEok Try.prog C 18 fe18 := .body Try.func18 (by kernel_rfl) (by kernel_rfl) (by kernel_rfl) (by kernel_rfl) (by kernel_rfl)
theorem fe19_ok (C : Ctx) : FEok Try.prog C 19 fe19 := .body Try.func19 (by kernel_rfl) (by kernel_rfl) (by kernel_rfl) (by kernel_rfl) (by kernel_rfl)
theorem fe20_ok (C : Ctx) : FEok Try.prog C 20 fe20 := .body Try.func20 (by kernel_rfl) (by kernel_rfl) (by kernel_rfl) (by kernel_rfl) (by kernel_rfl)
theorem fe21_ok (C : Ctx) : FEok Try.prog C 21 fe21 := .body Try.func21 (by kernel_rfl) (by kernel_rfl) (by kernel_rfl) (by kernel_rfl) (by kernel_rfl)
theorem fe22_ok (C : Ctx) : FEok Try.prog C 22 fe22 := .body Try.func22 (by kernel_rfl) (by kernel_rfl) (by kernel_rfl) (by kernel_rfl) (by kernel_rfl)
theorem fe23_ok (C : Ctx) : FEok Try.prog C 23 fe23 := .body Try.func23 (by kernel_rfl) (by kernel_rfl) (by kernel_rfl) (by kernel_rfl) (by kernel_rfl)
theorem fe24_ok (C : Ctx) : FEok Try.prog C 24 fe24 := .body Try.func24 (by kernel_rfl) (by kernel_rfl) (by kernel_rfl) (by kernel_rfl) (by kernel_rfl)
theorem fe25_ok (C : Ctx) : FEok Try.prog C 25 fe25 := .body Try.func25 (by kernel_rfl) (by kernel_rfl) (by kernel_rfl) (by kernel_rfl) (by kernel_rfl)
theorem fe26_ok (C : Ctx) : FEok Try.prog C 26 fe26 := .body Try.func26 (by kernel_rfl) (by kernel_rfl) (by kernel_rfl) (by kernel_rfl) (by kernel_rfl)
theorem fe27_ok (C : Ctx) : FEok Try.prog C 27 fe27 := .body Try.func27 (by kernel_rfl) (by kernel_rfl) (by kernel_rfl) (by kernel_rfl) (by kernel_rfl)
theorem fe28_ok (C : Ctx) : FEok Try.prog C 28 fe28 := .body Try.func28 (by kernel_rfl) (by kernel_rfl) (by kernel_rfl) (by kernel_rfl) (by kernel_rfl)
theorem fe29_ok (C : Ctx) : FEok Try.prog C 29 fe29 := .body Try.func29 (by kernel_rfl) (by kernel_rfl) (by kernel_rfl) (by kernel_rfl) (by kernel_rfl)
theorem fe30_ok (C : Ctx) : FEok Try.prog C 30 fe30 := .body Try.func30 (by kernel_rfl) (by kernel_rfl) (by kernel_rfl) (by kernel_rfl) (by kernel_rfl)
theorem fe31_ok (C : Ctx) : FEok Try.prog C 31 fe31 := .body Try.func31 (by kernel_rfl) (by kernel_rfl) (by kernel_rfl) (by kernel_rfl) (by kernel_rfl)
theorem fe32_ok (C : Ctx) : FEok Try.prog C 32 fe32 := .body Try.func32 (by kernel_rfl) (by kernel_rfl) (by kernel_rfl) (by kernel_rfl) (by kernel_rfl)
theorem fe33_ok (C : Ctx) : FEok Try.prog C 33 fe33 := .body Try.func33 (by kernel_rfl) (by kernel_rfl) (by kernel_rfl) (by kernel_rfl) (by kernel_rfl)
theorem fe34_ok (C : Ctx) : FEok Try.prog C 34 fe34 := .body Try.func34 (by kernel_rfl) (by kernel_rfl) (by kernel_rfl) (by kernel_rfl) (by kernel_rfl)
theorem fe35_ok (C : Ctx) : FEok Try.prog C 35 fe35 := .body Try.func35 (by kernel_rfl) (by kernel_rfl) (by kernel_rfl) (by kernel_rfl) (by kernel_rfl)
theorem fe36_ok (C : Ctx) : FEok Try.prog C 36 fe36 := .body Try.func36 (by kernel_rfl) (by kernel_rfl) (by kernel_rfl) (by kernel_rfl) (by kernel_rfl)
theorem fe37_ok (C : Ctx) : FEok Try.prog C 37 fe37 := .body Try.func37 (by kernel_rfl) (by kernel_rfl) (by kernel_rfl) (by kernel_rfl) (by kernel_rfl)
theorem fe38_ok (C : Ctx) : FEok Try.prog C 38 fe38 := .body Try.func38 (by kernel_rfl) (by kernel_rfl) (by kernel_rfl) (by kernel_rfl) (by kernel_rfl)
theorem fe39_ok (C : Ctx) : FEok Try.prog C 39 fe39 := .body Try.func39 (by kernel_rfl) (by kernel_rfl) (by kernel_rfl) (by kernel_rfl) (by kernel_rfl)
theorem fe40_ok (C : Ctx) : FEok Try.prog C 40 fe40 := .body Try.func40 (by kernel_rfl) (by kernel_rfl) (by kernel_rfl) (by kernel_rfl) (by kernel_rfl)
theorem fe41_ok (C : Ctx) : FEok Try.prog C 41 fe41 := .body Try.func41 (by kernel_rfl) (by kernel_rfl) (by kernel_rfl) (by kernel_rfl) (by kernel_rfl)
theorem fe42_ok (C : Ctx) : FEok Try.prog C 42 fe42 := .body Try.func42 (by kernel_rfl) (by kernel_rfl) (by kernel_rfl) (by kernel_rfl) (by kernel_rfl)
theorem fe43_ok (C : Ctx) : FEok Try.prog C 43 fe43 := .body Try.func43 (by kernel_rfl) (by kernel_rfl) (by kernel_rfl) (by kernel_rfl) (by kernel_rfl)
theorem fe44_ok (C : Ctx) : FEok Try.prog C 44 fe44 := .body Try.func44 (by kernel_rfl) (by kernel_rfl) (by kernel_rfl) (by kernel_rfl) (by kernel_rfl)
theorem fe45_ok (C : Ctx) : FEok Try.prog C 45 fe45 := .body Try.func45 (by kernel_rfl) (by kernel_rfl) (by kernel_rfl) (by kernel_rfl) (by kernel_rfl)
theorem fe47_ok (C : Ctx) : FEok Try.prog C 47 fe47 := .body Try.func47 (by kernel_rfl) (by kernel_rfl) (by kernel_rfl) (by kernel_rfl) (by kernel_rfl)
theorem fe48_ok (C : Ctx) : FEok Try.prog C 48 fe48 := .body Try.func48 (by kernel_rfl) (by kernel_rfl) (by kernel_rfl) (by kernel_rfl) (by kernel_rfl)
theorem fe49_ok (C : Ctx) : FEok Try.prog C 49 fe49 := .body Try.func49 (by kernel_rfl) (by kernel_rfl) (by kernel_rfl) (by kernel_rfl) (by kernel_rfl)
theorem fe50_ok (C : Ctx) : FEok Try.prog C 50 fe50 := .body Try.func50 (by kernel_rfl) (by kernel_rfl) (by kernel_rfl) (by kernel_rfl) (by kernel_rfl)
theorem fe51_ok (C : Ctx) : FEok Try.prog C 51 fe51 := .body Try.func51 (by kernel_rfl) (by kernel_rfl) (by kernel_rfl) (by kernel_rfl) (by kernel_rfl)
theorem fe52_ok (C : Ctx) : FEok Try.prog C 52 fe52 := .body Try.func52 (by kernel_rfl) (by kernel_rfl) (by kernel_rfl) (by kernel_rfl) (by kernel_rfl)
theorem fe53_ok (C : Ctx) : FEok Try.prog C 53 fe53 := .body Try.func53 (by kernel_rfl) (by kernel_rfl) (by kernel_rfl) (by kernel_rfl) (by kernel_rfl)
theorem fe54_ok (C : Ctx) : FEok Try.prog C 54 fe54 := .body Try.func54 (by kernel_rfl) (by kernel_rfl) (by kernel_rfl) (by kernel_rfl) (by kernel_rfl)
theorem fe55_ok (C : Ctx) : FEok Try.prog C 55 fe55 := .body Try.func55 (by kernel_rfl) (by kernel_rfl) (by kernel_rfl) (by kernel_rfl) (by kernel_rfl)
theorem fe56_ok (C : Ctx) : FEok Try.prog C 56 fe56 := .body Try.func56 (by kernel_rfl) (by kernel_rfl) (by kernel_rfl) (by kernel_rfl) (by kernel_rfl)
theorem fe57_ok (C : Ctx) : FEok Try.prog C 57 fe57 := .body Try.func57 (by kernel_rfl) (by kernel_rfl) (by kernel_rfl) (by kernel_rfl) (by kernel_rfl)
theorem fe58_ok (C : Ctx) : FEok Try.prog C 58 fe58 := .body Try.func58 (by kernel_rfl) (by kernel_rfl) (by kernel_rfl) (by kernel_rfl) (by kernel_rfl)
theorem fe59_ok (C : Ctx) : FEok Try.prog C 59 fe59 := .body Try.func59 (by kernel_rfl) (by kernel_rfl) (by kernel_rfl) (by kernel_rfl) (by kernel_rfl)
theorem fe60_ok (C : Ctx) : FEok Try.prog C 60 fe60 := .body Try.func60 (by kernel_rfl) (by kernel_rfl) (by kernel_rfl) (by kernel_rfl) (by kernel_rfl)
theorem fe61_ok (C : Ctx) : FEok Try.prog C 61 fe61 := .body Try.func61 (by kernel_rfl) (by kernel_rfl) (by kernel_rfl) (by kernel_rfl) (by kernel_rfl)
theorem fe62_ok (C : Ctx) : FEok Try.prog C 62 fe62 := fe_count (ext0 Try.func62 (by kernel_rfl) (by kernel_rfl) (by kernel_rfl) (show Extern.find _ = some Extern.BytealgCount.count by kernel_rfl))
theorem fe63_ok (C : Ctx) : FEok Try.prog C 63 fe63 := fe_indexByte (ext0 Try.func63 (by kernel_rfl) (by kernel_rfl) (by kernel_rfl) (show Extern.find _ = some Extern.BytealgIndexByte.indexByte by kernel_rfl))
theorem fe64_ok (C : Ctx) : FEok Try.prog C 64 fe64 := .body Try.func64 (by kernel_rfl) (by kernel_rfl) (by kernel_rfl) (by kernel_rfl) (by kernel_rfl)
theorem fe65_ok (C : Ctx) : FEok Try.prog C 65 fe65 := .body Try.func65 (by kernel_rfl) (by kernel_rfl) (by kernel_rfl) (by kernel_rfl) (by kernel_rfl)
theorem fe66_ok (C : Ctx) : FEok Try.prog C 66 fe66 := .body Try.func66 (by kernel_rfl) (by kernel_rfl) (by kernel_rfl) (by kernel_rfl) (by kernel_rfl)
theorem fe67_ok (C : Ctx) : FEok Try.prog C 67 fe67 := .body Try.func67 (by kernel_rfl) (by kernel_rfl) (by kernel_rfl) (by kernel_rfl) (by kernel_rfl)
theorem fe68_ok (C : Ctx) : FEok Try.prog C 68 fe68 := .body Try.func68 (by kernel_rfl) (by kernel_rfl) (by kernel_rfl) (by kernel_rfl) (by kernel_rfl)
theorem fe69_ok (C : Ctx) : FEok Try.prog C 69 fe69 := .body Try.func69 (by kernel_rfl) (by kernel_rfl) (by kernel_rfl) (by kernel_rfl) (by kernel_rfl)
theorem fe70_ok (C : Ctx) : FEok Try.prog C 70 fe70 := .body Try.func70 (by kernel_rfl) (by kernel_rfl) (by kernel_rfl) (by kernel_rfl) (by kernel_rfl)
theorem fe71_ok (C : Ctx) : FEok Try.prog C 71 fe71 := .body Try.func71 (by kernel_rfl) (by kernel_rfl) (by kernel_rfl) (by kernel_rfl) (by kernel_rfl)
theorem fe72_ok (C : Ctx) : FEok Try.prog C 72 fe72 := .body Try.func72 (by kernel_rfl) (by kernel_rfl) (by kernel_rfl) (by kernel_rfl) (by kernel_rfl)
theorem fe73_ok (C : Ctx) : FEok Try.prog C 73 fe73 := .body Try.func73 (by kernel_rfl) (by kernel_rfl) (by kernel_rfl) (by kernel_rfl) (by kernel_rfl)
theorem fe74_ok (C : Ctx) : FEok Try.prog C 74 fe74 := .body Try.func74 (by kernel_rfl) (by kernel_rfl) (by kernel_rfl) (by kernel_rfl) (by kernel_rfl)
theorem tt_ok : tt.All (TIok Try.prog) (fun k => k) := (.none (.some ti1_ok (.some ti3_ok (.some ti7_ok (.some ti15_ok (.some ti31_ok (.some ti63_ok trivial trivial) (.some ti95_ok trivial trivial)) (.some ti47_ok (.some ti79_ok trivial trivial) trivial)) (.some ti23_ok (.some ti39_ok (.some ti71_ok trivial trivial) (.some ti103_ok trivial trivial)) (.some ti55_ok (.some ti87_ok trivial trivial) trivial))) (.some ti11_ok (.some ti19_ok (.some ti35_ok trivial (.some ti99_ok trivial trivial)) (.some ti51_ok (.some ti83_ok trivial trivial) trivial)) (.none (.some ti43_ok (.some ti75_ok trivial trivial) (.some ti107_ok trivial trivial)) (.some ti59_ok (.some ti91_ok trivial trivial) trivial)))) (.some ti5_ok (.some ti9_ok (.some ti17_ok (.some ti33_ok (.some ti65_ok trivial trivial) (.some ti97_ok trivial trivial)) (.some ti49_ok (.some ti81_ok trivial trivial) trivial)) (.some ti25_ok (.some ti41_ok (.some ti73_ok trivial trivial) (.some ti105_ok trivial trivial)) (.some ti57_ok (.some ti89_ok trivial trivial) trivial))) (.some ti13_ok (.some ti21_ok (.some ti37_ok (.some ti69_ok trivial trivial) (.some ti101_ok trivial trivial)) (.some ti53_ok (.some ti85_ok trivial trivial) trivial)) (.some ti29_ok (.some ti45_ok (.some ti77_ok trivial trivial) (.some ti109_ok trivial trivial)) (.some ti61_ok (.some ti93_ok trivial trivial) trivial))))) (.some ti2_ok (.some ti4_ok (.some ti8_ok (.some ti16_ok (.some ti32_ok (.some ti64_ok trivial trivial) (.some ti96_ok trivial trivial)) (.some ti48_ok (.some ti80_ok trivial trivial) trivial)) (.some ti24_ok (.some ti40_ok (.some ti72_ok trivial trivial) (.some ti104_ok trivial trivial)) (.some ti56_ok (.some ti88_ok trivial trivial) trivial))) (.some ti12_ok (.some ti20_ok (.some ti36_ok (.some ti68_ok trivial trivial) (.some ti100_ok trivial trivial)) (.some ti52_ok (.some ti84_ok trivial trivial) trivial)) (.some ti28_ok (.some ti44_ok (.some ti76_ok trivial trivial) (.some ti108_ok trivial trivial)) (.some ti60_ok (.some ti92_ok trivial trivial) trivial)))) (.some ti6_ok (.some ti10_ok (.some ti18_ok (.some ti34_ok (.some ti66_ok trivial trivial) (.some ti98_ok trivial trivial)) (.some ti50_ok trivial trivial)) (.some ti26_ok (.some ti42_ok (.some ti74_ok trivial trivial) (.some ti106_ok trivial trivial)) (.some ti58_ok (.some ti90_ok trivial trivial) trivial))) (.some ti14_ok (.some ti22_ok (.some ti38_ok (.some ti70_ok trivial trivial) (.some ti102_ok trivial trivial)) (.some ti54_ok (.some ti86_ok trivial trivial) trivial)) (.none (.some ti46_ok (.some ti78_ok trivial trivial) (.some ti110_ok trivial trivial)) (.none (.some ti94_ok trivial trivial) trivial))))))
theorem ft_ok : ft.All (FEok Try.prog C) (fun k => k) := (.none (.none (.some (fe3_ok C) (.some (fe7_ok C) (.some (fe15_ok C) (.some (fe31_ok C) (.some (fe63_ok C) trivial trivial) trivial) (.some (fe47_ok C) trivial trivial)) (.some (fe23_ok C) (.some (fe39_ok C) (.some (fe71_ok C) trivial trivial) trivial) (.some (fe55_ok C) trivial trivial))) (.some (fe11_ok C) (.some (fe19_ok C) (.some (fe35_ok C) (.some (fe67_ok C) trivial trivial) trivial) (.some (fe51_ok C) trivial trivial)) (.some (fe27_ok C) (.some (fe43_ok C) trivial trivial) (.some (fe59_ok C) trivial trivial)))) (.some (fe5_ok C) (.some (fe9_ok C) (.some (fe17_ok C) (.some (fe33_ok C) (.some (fe65_ok C) trivial trivial) trivial) (.some (fe49_ok C) trivial trivial)) (.some (fe25_ok C) (.some (fe41_ok C) (.some (fe73_ok C) trivial trivial) trivial) (.some (fe57_ok C) trivial trivial))) (.some (fe13_ok C) (.some (fe21_ok C) (.some (fe37_ok C) (.some (fe69_ok C) trivial trivial) trivial) (.some (fe53_ok C) trivial trivial)) (.some (fe29_ok C) (.some (fe45_ok C) trivial trivial) (.some (fe61_ok C) trivial trivial))))) (.some (fe2_ok C) (.some (fe4_ok C) (.some (fe8_ok C) (.some (fe16_ok C) (.some (fe32_ok C) (.some (fe64_ok C) trivial trivial) trivial) (.some (fe48_ok C) trivial trivial)) (.some (fe24_ok C) (.some (fe40_ok C) (.some (fe72_ok C) trivial trivial) trivial) (.some (fe56_ok C) trivial trivial))) (.some (fe12_ok C) (.some (fe20_ok C) (.some (fe36_ok C) (.some (fe68_ok C) trivial trivial) trivial) (.some (fe52_ok C) trivial trivial)) (.some (fe28_ok C) (.some (fe44_ok C) trivial trivial) (.some (fe60_ok C) trivial trivial)))) (.some (fe6_ok C) (.some (fe10_ok C) (.some (fe18_ok C) (.some (fe34_ok C) (.some (fe66_ok C) trivial trivial) trivial) (.some (fe50_ok C) trivial trivial)) (.some (fe26_ok C) (.some (fe42_ok C) (.some (fe74_ok C) trivial trivial) trivial) (.some (fe58_ok C) trivial trivial))) (.some (fe14_ok C) (.some (fe22_ok C) (.some (fe38_ok C) (.some (fe70_ok C) trivial trivial) trivial) (.some (fe54_ok C) trivial trivial)) (.some (fe30_ok C) trivial (.some (fe62_ok C) trivial trivial))))))
theorem CF : CtxF Try.prog C := ⟨⟨fun t ti h => tt_ok.get t ti h⟩, fun g fe h => ft_ok.get g fe h⟩
end Go.Proofs.Ytbaoelfpmdmhjaa
