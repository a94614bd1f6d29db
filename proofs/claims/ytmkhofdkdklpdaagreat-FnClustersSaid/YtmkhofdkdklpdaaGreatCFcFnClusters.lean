/- Facts about the program. No condition. -/
import Derived.Test.YtmkhofdkdklpdaaGreatCDb
import Derived.KernelRfl
set_option linter.unusedVariables false
namespace Go.Proofs.YtmkhofdkdklpdaaGreat
open Go Go.RowKit M PV
set_option maxRecDepth 10000
theorem c_100 : callI Tryz.prog 100 = true := by kernel_rfl
theorem c_106 : callI Tryz.prog 106 = true := by kernel_rfl
theorem c_110 : callI Tryz.prog 110 = true := by kernel_rfl
theorem c_111 : callI Tryz.prog 111 = true := by kernel_rfl
theorem c_112 : callI Tryz.prog 112 = true := by kernel_rfl
theorem c_113 : callI Tryz.prog 113 = true := by kernel_rfl
theorem c_12 : callI Tryz.prog 12 = true := by kernel_rfl
theorem c_120 : callI Tryz.prog 120 = true := by kernel_rfl
theorem c_122 : callI Tryz.prog 122 = true := by kernel_rfl
theorem c_16 : callI Tryz.prog 16 = true := by kernel_rfl
theorem c_17 : callI Tryz.prog 17 = true := by kernel_rfl
theorem c_19 : callI Tryz.prog 19 = true := by kernel_rfl
theorem c_20 : callI Tryz.prog 20 = true := by kernel_rfl
theorem c_21 : callI Tryz.prog 21 = true := by kernel_rfl
theorem c_22 : callI Tryz.prog 22 = true := by kernel_rfl
theorem c_24 : callI Tryz.prog 24 = true := by kernel_rfl
theorem c_26 : callI Tryz.prog 26 = true := by kernel_rfl
theorem c_32 : callI Tryz.prog 32 = true := by kernel_rfl
theorem c_33 : callI Tryz.prog 33 = true := by kernel_rfl
theorem c_34 : callI Tryz.prog 34 = true := by kernel_rfl
theorem c_38 : callI Tryz.prog 38 = true := by kernel_rfl
theorem c_5 : callI Tryz.prog 5 = true := by kernel_rfl
theorem c_52 : callI Tryz.prog 52 = true := by kernel_rfl
theorem c_55 : callI Tryz.prog 55 = true := by kernel_rfl
theorem c_6 : callI Tryz.prog 6 = true := by kernel_rfl
theorem c_61 : callI Tryz.prog 61 = true := by kernel_rfl
theorem c_62 : callI Tryz.prog 62 = true := by kernel_rfl
theorem c_63 : callI Tryz.prog 63 = true := by kernel_rfl
theorem c_64 : callI Tryz.prog 64 = true := by kernel_rfl
theorem c_65 : callI Tryz.prog 65 = true := by kernel_rfl
theorem c_67 : callI Tryz.prog 67 = true := by kernel_rfl
theorem c_68 : callI Tryz.prog 68 = true := by kernel_rfl
theorem c_7 : callI Tryz.prog 7 = true := by kernel_rfl
theorem c_8 : callI Tryz.prog 8 = true := by kernel_rfl
theorem c_81 : callI Tryz.prog 81 = true := by kernel_rfl
theorem c_82 : callI Tryz.prog 82 = true := by kernel_rfl
theorem c_84 : callI Tryz.prog 84 = true := by kernel_rfl
theorem c_87 : callI Tryz.prog 87 = true := by kernel_rfl
theorem c_88 : callI Tryz.prog 88 = true := by kernel_rfl
theorem c_89 : callI Tryz.prog 89 = true := by kernel_rfl
theorem c_9 : callI Tryz.prog 9 = true := by kernel_rfl
theorem c_90 : callI Tryz.prog 90 = true := by kernel_rfl
theorem c_91 : callI Tryz.prog 91 = true := by kernel_rfl
theorem c_92 : callI Tryz.prog 92 = true := by kernel_rfl
theorem c_93 : callI Tryz.prog 93 = true := by kernel_rfl
theorem c_97 : callI Tryz.prog 97 = true := by kernel_rfl
theorem fd_74_0 : fieldI Tryz.prog 74 0 = some 0 := by kernel_rfl
theorem fd_74_1 : fieldI Tryz.prog 74 1 = some 1 := by kernel_rfl
theorem fd_74_2 : fieldI Tryz.prog 74 2 = some 2 := by kernel_rfl
theorem ty_22 : tyI Tryz.prog 22 = some (false, 1) := by kernel_rfl
theorem ty_5 : tyI Tryz.prog 5 = some (false, 1) := by kernel_rfl
theorem z_74 : zeroI Tryz.prog 74 = some (.agg #[.slice none 0 0, .int .i64 0, .int .i64 0]) := by kernel_rfl
theorem zo_74 {Fz : FzT} {w : World} : OwnL [sl (.own 5 1) [], val (.int .i64 0), val (.int .i64 0)] Fz w (Value.cells (.agg #[.slice none 0 0, .int .i64 0, .int .i64 0])).toList [] := zo_sl (zo_val rfl (zo_val rfl (zo_nil)))
end Go.Proofs.YtmkhofdkdklpdaaGreat
