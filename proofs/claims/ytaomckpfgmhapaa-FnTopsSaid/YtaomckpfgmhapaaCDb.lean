/- Facts about the types of the program. No condition. -/
import Derived.Test.YtaomckpfgmhapaaProg
import Derived.Test.YtaomckpfgmhapaaCDa
import Derived.KernelRfl
set_option linter.unusedVariables false
namespace Go.Proofs.Ytaomckpfgmhapaa
open Go Go.RowKit M
set_option maxRecDepth 10000
theorem hm_ : Try.prog.follows .mixedOrders = true := by kernel_rfl
theorem c_11 : callI Try.prog 11 = true := by kernel_rfl
theorem c_12 : callI Try.prog 12 = true := by kernel_rfl
theorem c_23 : callI Try.prog 23 = true := by kernel_rfl
theorem c_32 : callI Try.prog 32 = true := by kernel_rfl
theorem c_33 : callI Try.prog 33 = true := by kernel_rfl
theorem c_34 : callI Try.prog 34 = true := by kernel_rfl
theorem c_35 : callI Try.prog 35 = true := by kernel_rfl
theorem c_37 : callI Try.prog 37 = true := by kernel_rfl
theorem c_42 : callI Try.prog 42 = true := by kernel_rfl
theorem c_43 : callI Try.prog 43 = true := by kernel_rfl
theorem c_46 : callI Try.prog 46 = true := by kernel_rfl
theorem c_47 : callI Try.prog 47 = true := by kernel_rfl
theorem c_56 : callI Try.prog 56 = true := by kernel_rfl
theorem c_59 : callI Try.prog 59 = true := by kernel_rfl
theorem c_60 : callI Try.prog 60 = true := by kernel_rfl
theorem c_61 : callI Try.prog 61 = true := by kernel_rfl
theorem c_62 : callI Try.prog 62 = true := by kernel_rfl
theorem c_63 : callI Try.prog 63 = true := by kernel_rfl
theorem c_66 : callI Try.prog 66 = true := by kernel_rfl
theorem c_67 : callI Try.prog 67 = true := by kernel_rfl
theorem c_68 : callI Try.prog 68 = true := by kernel_rfl
theorem c_94 : callI Try.prog 94 = true := by kernel_rfl
theorem c_95 : callI Try.prog 95 = true := by kernel_rfl
theorem fd_108_0 : fieldI Try.prog 108 0 = some 0 := by kernel_rfl
theorem fd_108_1 : fieldI Try.prog 108 1 = some 1 := by kernel_rfl
theorem fd_108_2 : fieldI Try.prog 108 2 = some 2 := by kernel_rfl
theorem fd_108_3 : fieldI Try.prog 108 3 = some 3 := by kernel_rfl
theorem fd_117_0 : fieldI Try.prog 117 0 = some 0 := by kernel_rfl
theorem fd_117_1 : fieldI Try.prog 117 1 = some 1 := by kernel_rfl
theorem fd_117_2 : fieldI Try.prog 117 2 = some 2 := by kernel_rfl
theorem fd_33_0 : fieldI Try.prog 33 0 = some 0 := by kernel_rfl
theorem fd_33_1 : fieldI Try.prog 33 1 = some 1 := by kernel_rfl
theorem fd_35_0 : fieldI Try.prog 35 0 = some 0 := by kernel_rfl
theorem fd_51_0 : fieldI Try.prog 51 0 = some 0 := by kernel_rfl
theorem fd_51_1 : fieldI Try.prog 51 1 = some 1 := by kernel_rfl
theorem pl_33 : placesI Try.prog 33 = some [(0, 1), (1, 1)] := by kernel_rfl
theorem sl_106 : sliceI Try.prog 106 = some (117, 3, 24) := by kernel_rfl
theorem sl_22 : sliceI Try.prog 22 = some (5, 1, 1) := by kernel_rfl
theorem sl_24 : sliceI Try.prog 24 = some (35, 3, 56) := by kernel_rfl
theorem sl_31 : sliceI Try.prog 31 = some (3, 1, 8) := by kernel_rfl
theorem sl_39 : sliceI Try.prog 39 = some (33, 2, 32) := by kernel_rfl
theorem sl_43 : sliceI Try.prog 43 = some (51, 2, 32) := by kernel_rfl
theorem ty_106 : tyI Try.prog 106 = some (false, 1) := by kernel_rfl
theorem ty_117 : tyI Try.prog 117 = some (true, 3) := by kernel_rfl
theorem ty_3 : tyI Try.prog 3 = some (false, 1) := by kernel_rfl
theorem ty_31 : tyI Try.prog 31 = some (false, 1) := by kernel_rfl
theorem ty_33 : tyI Try.prog 33 = some (true, 2) := by kernel_rfl
theorem ty_35 : tyI Try.prog 35 = some (true, 3) := by kernel_rfl
theorem ty_39 : tyI Try.prog 39 = some (false, 1) := by kernel_rfl
theorem z_3 : zeroI Try.prog 3 = some (.int .i64 0) := by kernel_rfl
theorem z_33 : zeroI Try.prog 33 = some (.agg #[.int .i64 0, .slice none 0 0]) := by kernel_rfl
theorem z_35 : zeroI Try.prog 35 = some (.agg #[.int .i64 0, .slice none 0 0, .slice none 0 0]) := by kernel_rfl
theorem zo_33 {Fz : FzT} {w : World} : OwnL [PV.val (.int .i64 0), PV.sl (.own 3 1) []] Fz w (Value.cells (.agg #[.int .i64 0, .slice none 0 0])).toList [] := zo_val rfl (zo_sl (zo_nil))
theorem zo_35 {Fz : FzT} {w : World} : OwnL [PV.val (.int .i64 0), PV.sl (.own 3 1) [], PV.sl (.own 3 1) []] Fz w (Value.cells (.agg #[.int .i64 0, .slice none 0 0, .slice none 0 0])).toList [] := zo_val rfl (zo_sl (zo_sl (zo_nil)))
end Go.Proofs.Ytaomckpfgmhapaa
