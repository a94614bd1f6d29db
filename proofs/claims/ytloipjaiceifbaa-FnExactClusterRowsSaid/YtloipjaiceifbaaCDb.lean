/- Facts about the types of the program. No condition. -/
import Derived.Test.YtloipjaiceifbaaProg
import Derived.Test.YtloipjaiceifbaaCDa
import Derived.KernelRfl
set_option linter.unusedVariables false
namespace Go.Proofs.Ytloipjaiceifbaa
open Go Go.RowKit M
set_option maxRecDepth 10000
theorem hm_ : Try.prog.follows .mixedOrders = true := by kernel_rfl
theorem c_107 : callI Try.prog 107 = true := by kernel_rfl
theorem c_108 : callI Try.prog 108 = true := by kernel_rfl
theorem c_109 : callI Try.prog 109 = true := by kernel_rfl
theorem c_111 : callI Try.prog 111 = true := by kernel_rfl
theorem c_112 : callI Try.prog 112 = true := by kernel_rfl
theorem c_113 : callI Try.prog 113 = true := by kernel_rfl
theorem c_114 : callI Try.prog 114 = true := by kernel_rfl
theorem c_115 : callI Try.prog 115 = true := by kernel_rfl
theorem c_116 : callI Try.prog 116 = true := by kernel_rfl
theorem c_117 : callI Try.prog 117 = true := by kernel_rfl
theorem c_119 : callI Try.prog 119 = true := by kernel_rfl
theorem c_120 : callI Try.prog 120 = true := by kernel_rfl
theorem c_121 : callI Try.prog 121 = true := by kernel_rfl
theorem c_122 : callI Try.prog 122 = true := by kernel_rfl
theorem c_123 : callI Try.prog 123 = true := by kernel_rfl
theorem c_124 : callI Try.prog 124 = true := by kernel_rfl
theorem c_125 : callI Try.prog 125 = true := by kernel_rfl
theorem c_126 : callI Try.prog 126 = true := by kernel_rfl
theorem c_130 : callI Try.prog 130 = true := by kernel_rfl
theorem c_133 : callI Try.prog 133 = true := by kernel_rfl
theorem c_134 : callI Try.prog 134 = true := by kernel_rfl
theorem c_135 : callI Try.prog 135 = true := by kernel_rfl
theorem c_136 : callI Try.prog 136 = true := by kernel_rfl
theorem c_137 : callI Try.prog 137 = true := by kernel_rfl
theorem c_138 : callI Try.prog 138 = true := by kernel_rfl
theorem c_139 : callI Try.prog 139 = true := by kernel_rfl
theorem c_140 : callI Try.prog 140 = true := by kernel_rfl
theorem c_141 : callI Try.prog 141 = true := by kernel_rfl
theorem c_142 : callI Try.prog 142 = true := by kernel_rfl
theorem c_143 : callI Try.prog 143 = true := by kernel_rfl
theorem c_146 : callI Try.prog 146 = true := by kernel_rfl
theorem c_147 : callI Try.prog 147 = true := by kernel_rfl
theorem c_148 : callI Try.prog 148 = true := by kernel_rfl
theorem c_17 : callI Try.prog 17 = true := by kernel_rfl
theorem c_19 : callI Try.prog 19 = true := by kernel_rfl
theorem c_21 : callI Try.prog 21 = true := by kernel_rfl
theorem c_22 : callI Try.prog 22 = true := by kernel_rfl
theorem c_23 : callI Try.prog 23 = true := by kernel_rfl
theorem c_25 : callI Try.prog 25 = true := by kernel_rfl
theorem c_28 : callI Try.prog 28 = true := by kernel_rfl
theorem c_29 : callI Try.prog 29 = true := by kernel_rfl
theorem c_32 : callI Try.prog 32 = true := by kernel_rfl
theorem c_33 : callI Try.prog 33 = true := by kernel_rfl
theorem c_35 : callI Try.prog 35 = true := by kernel_rfl
theorem c_36 : callI Try.prog 36 = true := by kernel_rfl
theorem c_39 : callI Try.prog 39 = true := by kernel_rfl
theorem c_40 : callI Try.prog 40 = true := by kernel_rfl
theorem c_41 : callI Try.prog 41 = true := by kernel_rfl
theorem c_42 : callI Try.prog 42 = true := by kernel_rfl
theorem c_53 : callI Try.prog 53 = true := by kernel_rfl
theorem c_57 : callI Try.prog 57 = true := by kernel_rfl
theorem c_59 : callI Try.prog 59 = true := by kernel_rfl
theorem c_60 : callI Try.prog 60 = true := by kernel_rfl
theorem c_63 : callI Try.prog 63 = true := by kernel_rfl
theorem c_64 : callI Try.prog 64 = true := by kernel_rfl
theorem c_65 : callI Try.prog 65 = true := by kernel_rfl
theorem c_66 : callI Try.prog 66 = true := by kernel_rfl
theorem c_67 : callI Try.prog 67 = true := by kernel_rfl
theorem c_68 : callI Try.prog 68 = true := by kernel_rfl
theorem c_70 : callI Try.prog 70 = true := by kernel_rfl
theorem c_72 : callI Try.prog 72 = true := by kernel_rfl
theorem c_73 : callI Try.prog 73 = true := by kernel_rfl
theorem c_74 : callI Try.prog 74 = true := by kernel_rfl
theorem c_78 : callI Try.prog 78 = true := by kernel_rfl
theorem c_79 : callI Try.prog 79 = true := by kernel_rfl
theorem c_80 : callI Try.prog 80 = true := by kernel_rfl
theorem c_81 : callI Try.prog 81 = true := by kernel_rfl
theorem c_82 : callI Try.prog 82 = true := by kernel_rfl
theorem c_85 : callI Try.prog 85 = true := by kernel_rfl
theorem c_86 : callI Try.prog 86 = true := by kernel_rfl
theorem c_89 : callI Try.prog 89 = true := by kernel_rfl
theorem c_90 : callI Try.prog 90 = true := by kernel_rfl
theorem c_91 : callI Try.prog 91 = true := by kernel_rfl
theorem c_92 : callI Try.prog 92 = true := by kernel_rfl
theorem c_93 : callI Try.prog 93 = true := by kernel_rfl
theorem c_94 : callI Try.prog 94 = true := by kernel_rfl
theorem c_95 : callI Try.prog 95 = true := by kernel_rfl
theorem c_96 : callI Try.prog 96 = true := by kernel_rfl
theorem c_99 : callI Try.prog 99 = true := by kernel_rfl
theorem fd_130_0 : fieldI Try.prog 130 0 = some 0 := by kernel_rfl
theorem fd_130_1 : fieldI Try.prog 130 1 = some 1 := by kernel_rfl
theorem fd_130_2 : fieldI Try.prog 130 2 = some 2 := by kernel_rfl
theorem fd_132_0 : fieldI Try.prog 132 0 = some 0 := by kernel_rfl
theorem fd_132_1 : fieldI Try.prog 132 1 = some 1 := by kernel_rfl
theorem fd_132_2 : fieldI Try.prog 132 2 = some 2 := by kernel_rfl
theorem fd_50_0 : fieldI Try.prog 50 0 = some 0 := by kernel_rfl
theorem fd_50_1 : fieldI Try.prog 50 1 = some 1 := by kernel_rfl
theorem fd_50_2 : fieldI Try.prog 50 2 = some 2 := by kernel_rfl
theorem fd_50_3 : fieldI Try.prog 50 3 = some 3 := by kernel_rfl
theorem fd_56_0 : fieldI Try.prog 56 0 = some 0 := by kernel_rfl
theorem fd_56_1 : fieldI Try.prog 56 1 = some 1 := by kernel_rfl
theorem fd_56_2 : fieldI Try.prog 56 2 = some 2 := by kernel_rfl
theorem fd_56_3 : fieldI Try.prog 56 3 = some 3 := by kernel_rfl
theorem fd_60_0 : fieldI Try.prog 60 0 = some 0 := by kernel_rfl
theorem fd_60_1 : fieldI Try.prog 60 1 = some 4 := by kernel_rfl
theorem fd_60_2 : fieldI Try.prog 60 2 = some 5 := by kernel_rfl
theorem fd_60_3 : fieldI Try.prog 60 3 = some 6 := by kernel_rfl
theorem fd_60_4 : fieldI Try.prog 60 4 = some 7 := by kernel_rfl
theorem fd_60_5 : fieldI Try.prog 60 5 = some 8 := by kernel_rfl
theorem fd_60_6 : fieldI Try.prog 60 6 = some 9 := by kernel_rfl
theorem fd_60_7 : fieldI Try.prog 60 7 = some 10 := by kernel_rfl
theorem fd_73_0 : fieldI Try.prog 73 0 = some 0 := by kernel_rfl
theorem fd_73_1 : fieldI Try.prog 73 1 = some 4 := by kernel_rfl
theorem fd_73_2 : fieldI Try.prog 73 2 = some 5 := by kernel_rfl
theorem fd_73_3 : fieldI Try.prog 73 3 = some 6 := by kernel_rfl
theorem fd_73_4 : fieldI Try.prog 73 4 = some 7 := by kernel_rfl
theorem fd_73_5 : fieldI Try.prog 73 5 = some 8 := by kernel_rfl
theorem fd_73_6 : fieldI Try.prog 73 6 = some 9 := by kernel_rfl
theorem fd_73_7 : fieldI Try.prog 73 7 = some 10 := by kernel_rfl
theorem fd_82_0 : fieldI Try.prog 82 0 = some 0 := by kernel_rfl
theorem fd_82_1 : fieldI Try.prog 82 1 = some 1 := by kernel_rfl
theorem fd_84_0 : fieldI Try.prog 84 0 = some 0 := by kernel_rfl
theorem fd_84_1 : fieldI Try.prog 84 1 = some 2 := by kernel_rfl
theorem fd_87_0 : fieldI Try.prog 87 0 = some 0 := by kernel_rfl
theorem fd_87_1 : fieldI Try.prog 87 1 = some 1 := by kernel_rfl
theorem fd_89_0 : fieldI Try.prog 89 0 = some 0 := by kernel_rfl
theorem fd_89_1 : fieldI Try.prog 89 1 = some 2 := by kernel_rfl
theorem fd_99_0 : fieldI Try.prog 99 0 = some 0 := by kernel_rfl
theorem fd_99_1 : fieldI Try.prog 99 1 = some 1 := by kernel_rfl
theorem pl_87 : placesI Try.prog 87 = some [(0, 1), (1, 1)] := by kernel_rfl
theorem sl_22 : sliceI Try.prog 22 = some (84, 3, 56) := by kernel_rfl
theorem sl_24 : sliceI Try.prog 24 = some (89, 3, 56) := by kernel_rfl
theorem sl_30 : sliceI Try.prog 30 = some (82, 2, 32) := by kernel_rfl
theorem sl_32 : sliceI Try.prog 32 = some (87, 2, 32) := by kernel_rfl
theorem sl_38 : sliceI Try.prog 38 = some (3, 1, 8) := by kernel_rfl
theorem sl_39 : sliceI Try.prog 39 = some (99, 2, 32) := by kernel_rfl
theorem sl_48 : sliceI Try.prog 48 = some (132, 3, 24) := by kernel_rfl
theorem sl_51 : sliceI Try.prog 51 = some (30, 1, 24) := by kernel_rfl
theorem sl_54 : sliceI Try.prog 54 = some (130, 3, 24) := by kernel_rfl
theorem sl_57 : sliceI Try.prog 57 = some (32, 1, 24) := by kernel_rfl
theorem sl_58 : sliceI Try.prog 58 = some (4, 1, 1) := by kernel_rfl
theorem ty_130 : tyI Try.prog 130 = some (true, 3) := by kernel_rfl
theorem ty_132 : tyI Try.prog 132 = some (true, 3) := by kernel_rfl
theorem ty_3 : tyI Try.prog 3 = some (false, 1) := by kernel_rfl
theorem ty_30 : tyI Try.prog 30 = some (false, 1) := by kernel_rfl
theorem ty_32 : tyI Try.prog 32 = some (false, 1) := by kernel_rfl
theorem ty_38 : tyI Try.prog 38 = some (false, 1) := by kernel_rfl
theorem ty_4 : tyI Try.prog 4 = some (false, 1) := by kernel_rfl
theorem ty_48 : tyI Try.prog 48 = some (false, 1) := by kernel_rfl
theorem ty_50 : tyI Try.prog 50 = some (true, 4) := by kernel_rfl
theorem ty_51 : tyI Try.prog 51 = some (false, 1) := by kernel_rfl
theorem ty_54 : tyI Try.prog 54 = some (false, 1) := by kernel_rfl
theorem ty_56 : tyI Try.prog 56 = some (true, 4) := by kernel_rfl
theorem ty_57 : tyI Try.prog 57 = some (false, 1) := by kernel_rfl
theorem ty_58 : tyI Try.prog 58 = some (false, 1) := by kernel_rfl
theorem ty_60 : tyI Try.prog 60 = some (true, 11) := by kernel_rfl
theorem ty_82 : tyI Try.prog 82 = some (true, 2) := by kernel_rfl
theorem ty_84 : tyI Try.prog 84 = some (true, 3) := by kernel_rfl
theorem ty_87 : tyI Try.prog 87 = some (true, 2) := by kernel_rfl
theorem ty_89 : tyI Try.prog 89 = some (true, 3) := by kernel_rfl
theorem ty_99 : tyI Try.prog 99 = some (true, 2) := by kernel_rfl
theorem ub_4 : Try.prog.underlying 4 = some .bool := by kernel_rfl
theorem z_130 : zeroI Try.prog 130 = some (.agg #[.int .i64 0, .int .i64 0, .int .i64 0]) := by kernel_rfl
theorem z_3 : zeroI Try.prog 3 = some (.int .i64 0) := by kernel_rfl
theorem z_32 : zeroI Try.prog 32 = some (.slice none 0 0) := by kernel_rfl
theorem z_4 : zeroI Try.prog 4 = some (.bool false) := by kernel_rfl
theorem z_56 : zeroI Try.prog 56 = some (.agg #[.int .i64 0, .int .i64 0, .slice none 0 0, .slice none 0 0]) := by kernel_rfl
theorem z_60 : zeroI Try.prog 60 = some (.agg #[.int .i64 0, .int .i64 0, .slice none 0 0, .slice none 0 0, .slice none 0 0, .slice none 0 0, .slice none 0 0, .slice none 0 0, .slice none 0 0, .slice none 0 0, .slice none 0 0]) := by kernel_rfl
theorem z_87 : zeroI Try.prog 87 = some (.agg #[.int .i64 0, .slice none 0 0]) := by kernel_rfl
theorem z_89 : zeroI Try.prog 89 = some (.agg #[.int .i64 0, .slice none 0 0, .slice none 0 0]) := by kernel_rfl
theorem zo_130 {Fz : FzT} {w : World} : OwnL [PV.val (.int .i64 0), PV.val (.int .i64 0), PV.val (.int .i64 0)] Fz w (Value.cells (.agg #[.int .i64 0, .int .i64 0, .int .i64 0])).toList [] := zo_val rfl (zo_val rfl (zo_val rfl (zo_nil)))
theorem zo_3 {Fz : FzT} {w : World} : OwnL [PV.val (.int .i64 0)] Fz w (Value.cells (.int .i64 0)).toList [] := zo_val rfl (zo_nil)
theorem zo_32 {Fz : FzT} {w : World} : OwnL [PV.sl (.own 87 2) []] Fz w (Value.cells (.slice none 0 0)).toList [] := zo_sl (zo_nil)
theorem zo_4 {Fz : FzT} {w : World} : OwnL [PV.val (.bool false)] Fz w (Value.cells (.bool false)).toList [] := zo_val rfl (zo_nil)
theorem zo_56 {Fz : FzT} {w : World} : OwnL [PV.val (.int .i64 0), PV.val (.int .i64 0), PV.sl (.own 130 3) [], PV.sl (.own 3 1) []] Fz w (Value.cells (.agg #[.int .i64 0, .int .i64 0, .slice none 0 0, .slice none 0 0])).toList [] := zo_val rfl (zo_val rfl (zo_sl (zo_sl (zo_nil))))
theorem zo_60 {Fz : FzT} {w : World} : OwnL [PV.val (.int .i64 0), PV.val (.int .i64 0), PV.sl (.own 130 3) [], PV.sl (.own 3 1) [], PV.sl (.own 32 1) [], PV.sl (.own 4 1) [], PV.sl (.own 3 1) [], PV.sl (.own 3 1) [], PV.sl (.own 32 1) [], PV.sl (.own 3 1) [], PV.sl (.own 32 1) []] Fz w (Value.cells (.agg #[.int .i64 0, .int .i64 0, .slice none 0 0, .slice none 0 0, .slice none 0 0, .slice none 0 0, .slice none 0 0, .slice none 0 0, .slice none 0 0, .slice none 0 0, .slice none 0 0])).toList [] := zo_val rfl (zo_val rfl (zo_sl (zo_sl (zo_sl (zo_sl (zo_sl (zo_sl (zo_sl (zo_sl (zo_sl (zo_nil)))))))))))
theorem zo_87 {Fz : FzT} {w : World} : OwnL [PV.val (.int .i64 0), PV.sl (.own 3 1) []] Fz w (Value.cells (.agg #[.int .i64 0, .slice none 0 0])).toList [] := zo_val rfl (zo_sl (zo_nil))
theorem zo_89 {Fz : FzT} {w : World} : OwnL [PV.val (.int .i64 0), PV.sl (.own 3 1) [], PV.sl (.own 3 1) []] Fz w (Value.cells (.agg #[.int .i64 0, .slice none 0 0, .slice none 0 0])).toList [] := zo_val rfl (zo_sl (zo_sl (zo_nil)))
end Go.Proofs.Ytloipjaiceifbaa
