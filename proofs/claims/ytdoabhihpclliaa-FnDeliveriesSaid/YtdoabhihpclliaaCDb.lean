/- Facts about the types of the program. No condition. -/
import Derived.Test.YtdoabhihpclliaaProg
import Derived.Test.YtdoabhihpclliaaCDa
import Derived.KernelRfl
set_option linter.unusedVariables false
namespace Go.Proofs.Ytdoabhihpclliaa
open Go Go.RowKit M
set_option maxRecDepth 10000
theorem hm_ : Try.prog.follows .mixedOrders = true := by kernel_rfl
theorem c_11 : callI Try.prog 11 = true := by kernel_rfl
theorem c_12 : callI Try.prog 12 = true := by kernel_rfl
theorem c_16 : callI Try.prog 16 = true := by kernel_rfl
theorem c_17 : callI Try.prog 17 = true := by kernel_rfl
theorem c_23 : callI Try.prog 23 = true := by kernel_rfl
theorem c_24 : callI Try.prog 24 = true := by kernel_rfl
theorem c_25 : callI Try.prog 25 = true := by kernel_rfl
theorem c_26 : callI Try.prog 26 = true := by kernel_rfl
theorem c_27 : callI Try.prog 27 = true := by kernel_rfl
theorem c_28 : callI Try.prog 28 = true := by kernel_rfl
theorem c_29 : callI Try.prog 29 = true := by kernel_rfl
theorem c_30 : callI Try.prog 30 = true := by kernel_rfl
theorem c_31 : callI Try.prog 31 = true := by kernel_rfl
theorem c_32 : callI Try.prog 32 = true := by kernel_rfl
theorem c_33 : callI Try.prog 33 = true := by kernel_rfl
theorem c_34 : callI Try.prog 34 = true := by kernel_rfl
theorem c_37 : callI Try.prog 37 = true := by kernel_rfl
theorem c_38 : callI Try.prog 38 = true := by kernel_rfl
theorem c_39 : callI Try.prog 39 = true := by kernel_rfl
theorem c_44 : callI Try.prog 44 = true := by kernel_rfl
theorem c_45 : callI Try.prog 45 = true := by kernel_rfl
theorem c_46 : callI Try.prog 46 = true := by kernel_rfl
theorem c_47 : callI Try.prog 47 = true := by kernel_rfl
theorem c_49 : callI Try.prog 49 = true := by kernel_rfl
theorem c_7 : callI Try.prog 7 = true := by kernel_rfl
theorem c_8 : callI Try.prog 8 = true := by kernel_rfl
theorem fd_26_0 : fieldI Try.prog 26 0 = some 0 := by kernel_rfl
theorem fd_26_1 : fieldI Try.prog 26 1 = some 1 := by kernel_rfl
theorem fd_29_0 : fieldI Try.prog 29 0 = some 0 := by kernel_rfl
theorem fd_29_1 : fieldI Try.prog 29 1 = some 1 := by kernel_rfl
theorem fd_36_0 : fieldI Try.prog 36 0 = some 0 := by kernel_rfl
theorem fd_36_1 : fieldI Try.prog 36 1 = some 1 := by kernel_rfl
theorem fd_36_2 : fieldI Try.prog 36 2 = some 2 := by kernel_rfl
theorem pl_26 : placesI Try.prog 26 = some [(0, 1), (1, 1)] := by kernel_rfl
theorem pl_29 : placesI Try.prog 29 = some [(0, 1), (1, 1)] := by kernel_rfl
theorem pl_36 : placesI Try.prog 36 = some [(0, 1), (1, 1), (2, 1)] := by kernel_rfl
theorem sl_22 : sliceI Try.prog 22 = some (5, 1, 1) := by kernel_rfl
theorem sl_24 : sliceI Try.prog 24 = some (29, 2, 32) := by kernel_rfl
theorem sl_27 : sliceI Try.prog 27 = some (3, 1, 8) := by kernel_rfl
theorem ty_24 : tyI Try.prog 24 = some (false, 1) := by kernel_rfl
theorem ty_26 : tyI Try.prog 26 = some (true, 2) := by kernel_rfl
theorem ty_27 : tyI Try.prog 27 = some (false, 1) := by kernel_rfl
theorem ty_29 : tyI Try.prog 29 = some (true, 2) := by kernel_rfl
theorem ty_3 : tyI Try.prog 3 = some (false, 1) := by kernel_rfl
theorem ty_36 : tyI Try.prog 36 = some (true, 3) := by kernel_rfl
theorem z_26 : zeroI Try.prog 26 = some (.agg #[.int .i64 0, .slice none 0 0]) := by kernel_rfl
theorem z_29 : zeroI Try.prog 29 = some (.agg #[.int .i64 0, .slice none 0 0]) := by kernel_rfl
theorem z_3 : zeroI Try.prog 3 = some (.int .i64 0) := by kernel_rfl
theorem z_36 : zeroI Try.prog 36 = some (.agg #[.slice none 0 0, .int .i64 0, .int .i64 0]) := by kernel_rfl
theorem zo_26 {Fz : FzT} {w : World} : OwnL [PV.val (.int .i64 0), PV.sl (.own 29 2) []] Fz w (Value.cells (.agg #[.int .i64 0, .slice none 0 0])).toList [] := zo_val rfl (zo_sl (zo_nil))
theorem zo_29 {Fz : FzT} {w : World} : OwnL [PV.val (.int .i64 0), PV.sl (.own 3 1) []] Fz w (Value.cells (.agg #[.int .i64 0, .slice none 0 0])).toList [] := zo_val rfl (zo_sl (zo_nil))
theorem zo_36 {Fz : FzT} {w : World} : OwnL [PV.sl (.own 29 2) [], PV.val (.int .i64 0), PV.val (.int .i64 0)] Fz w (Value.cells (.agg #[.slice none 0 0, .int .i64 0, .int .i64 0])).toList [] := zo_sl (zo_val rfl (zo_val rfl (zo_nil)))
end Go.Proofs.Ytdoabhihpclliaa
