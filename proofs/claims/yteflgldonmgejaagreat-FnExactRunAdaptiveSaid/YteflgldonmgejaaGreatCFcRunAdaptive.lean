/- Facts about the program. No condition. -/
import Derived.Test.YteflgldonmgejaaGreatCDb
import Derived.KernelRfl
set_option linter.unusedVariables false
namespace Go.Proofs.YteflgldonmgejaaGreat
open Go Go.RowKit M PV
set_option maxRecDepth 10000
theorem c_100 : callI Tryz.prog 100 = true := by kernel_rfl
theorem c_101 : callI Tryz.prog 101 = true := by kernel_rfl
theorem c_102 : callI Tryz.prog 102 = true := by kernel_rfl
theorem c_103 : callI Tryz.prog 103 = true := by kernel_rfl
theorem c_104 : callI Tryz.prog 104 = true := by kernel_rfl
theorem c_105 : callI Tryz.prog 105 = true := by kernel_rfl
theorem c_106 : callI Tryz.prog 106 = true := by kernel_rfl
theorem c_108 : callI Tryz.prog 108 = true := by kernel_rfl
theorem c_11 : callI Tryz.prog 11 = true := by kernel_rfl
theorem c_113 : callI Tryz.prog 113 = true := by kernel_rfl
theorem c_115 : callI Tryz.prog 115 = true := by kernel_rfl
theorem c_116 : callI Tryz.prog 116 = true := by kernel_rfl
theorem c_117 : callI Tryz.prog 117 = true := by kernel_rfl
theorem c_118 : callI Tryz.prog 118 = true := by kernel_rfl
theorem c_119 : callI Tryz.prog 119 = true := by kernel_rfl
theorem c_120 : callI Tryz.prog 120 = true := by kernel_rfl
theorem c_121 : callI Tryz.prog 121 = true := by kernel_rfl
theorem c_122 : callI Tryz.prog 122 = true := by kernel_rfl
theorem c_123 : callI Tryz.prog 123 = true := by kernel_rfl
theorem c_124 : callI Tryz.prog 124 = true := by kernel_rfl
theorem c_126 : callI Tryz.prog 126 = true := by kernel_rfl
theorem c_13 : callI Tryz.prog 13 = true := by kernel_rfl
theorem c_131 : callI Tryz.prog 131 = true := by kernel_rfl
theorem c_138 : callI Tryz.prog 138 = true := by kernel_rfl
theorem c_139 : callI Tryz.prog 139 = true := by kernel_rfl
theorem c_14 : callI Tryz.prog 14 = true := by kernel_rfl
theorem c_140 : callI Tryz.prog 140 = true := by kernel_rfl
theorem c_141 : callI Tryz.prog 141 = true := by kernel_rfl
theorem c_142 : callI Tryz.prog 142 = true := by kernel_rfl
theorem c_143 : callI Tryz.prog 143 = true := by kernel_rfl
theorem c_144 : callI Tryz.prog 144 = true := by kernel_rfl
theorem c_145 : callI Tryz.prog 145 = true := by kernel_rfl
theorem c_146 : callI Tryz.prog 146 = true := by kernel_rfl
theorem c_147 : callI Tryz.prog 147 = true := by kernel_rfl
theorem c_148 : callI Tryz.prog 148 = true := by kernel_rfl
theorem c_149 : callI Tryz.prog 149 = true := by kernel_rfl
theorem c_15 : callI Tryz.prog 15 = true := by kernel_rfl
theorem c_150 : callI Tryz.prog 150 = true := by kernel_rfl
theorem c_156 : callI Tryz.prog 156 = true := by kernel_rfl
theorem c_163 : callI Tryz.prog 163 = true := by kernel_rfl
theorem c_17 : callI Tryz.prog 17 = true := by kernel_rfl
theorem c_170 : callI Tryz.prog 170 = true := by kernel_rfl
theorem c_171 : callI Tryz.prog 171 = true := by kernel_rfl
theorem c_172 : callI Tryz.prog 172 = true := by kernel_rfl
theorem c_174 : callI Tryz.prog 174 = true := by kernel_rfl
theorem c_178 : callI Tryz.prog 178 = true := by kernel_rfl
theorem c_179 : callI Tryz.prog 179 = true := by kernel_rfl
theorem c_180 : callI Tryz.prog 180 = true := by kernel_rfl
theorem c_181 : callI Tryz.prog 181 = true := by kernel_rfl
theorem c_182 : callI Tryz.prog 182 = true := by kernel_rfl
theorem c_183 : callI Tryz.prog 183 = true := by kernel_rfl
theorem c_184 : callI Tryz.prog 184 = true := by kernel_rfl
theorem c_185 : callI Tryz.prog 185 = true := by kernel_rfl
theorem c_188 : callI Tryz.prog 188 = true := by kernel_rfl
theorem c_194 : callI Tryz.prog 194 = true := by kernel_rfl
theorem c_195 : callI Tryz.prog 195 = true := by kernel_rfl
theorem c_196 : callI Tryz.prog 196 = true := by kernel_rfl
theorem c_197 : callI Tryz.prog 197 = true := by kernel_rfl
theorem c_198 : callI Tryz.prog 198 = true := by kernel_rfl
theorem c_199 : callI Tryz.prog 199 = true := by kernel_rfl
theorem c_20 : callI Tryz.prog 20 = true := by kernel_rfl
theorem c_200 : callI Tryz.prog 200 = true := by kernel_rfl
theorem c_205 : callI Tryz.prog 205 = true := by kernel_rfl
theorem c_207 : callI Tryz.prog 207 = true := by kernel_rfl
theorem c_208 : callI Tryz.prog 208 = true := by kernel_rfl
theorem c_209 : callI Tryz.prog 209 = true := by kernel_rfl
theorem c_21 : callI Tryz.prog 21 = true := by kernel_rfl
theorem c_210 : callI Tryz.prog 210 = true := by kernel_rfl
theorem c_211 : callI Tryz.prog 211 = true := by kernel_rfl
theorem c_212 : callI Tryz.prog 212 = true := by kernel_rfl
theorem c_22 : callI Tryz.prog 22 = true := by kernel_rfl
theorem c_222 : callI Tryz.prog 222 = true := by kernel_rfl
theorem c_223 : callI Tryz.prog 223 = true := by kernel_rfl
theorem c_225 : callI Tryz.prog 225 = true := by kernel_rfl
theorem c_23 : callI Tryz.prog 23 = true := by kernel_rfl
theorem c_230 : callI Tryz.prog 230 = true := by kernel_rfl
theorem c_231 : callI Tryz.prog 231 = true := by kernel_rfl
theorem c_232 : callI Tryz.prog 232 = true := by kernel_rfl
theorem c_234 : callI Tryz.prog 234 = true := by kernel_rfl
theorem c_235 : callI Tryz.prog 235 = true := by kernel_rfl
theorem c_236 : callI Tryz.prog 236 = true := by kernel_rfl
theorem c_24 : callI Tryz.prog 24 = true := by kernel_rfl
theorem c_42 : callI Tryz.prog 42 = true := by kernel_rfl
theorem c_43 : callI Tryz.prog 43 = true := by kernel_rfl
theorem c_44 : callI Tryz.prog 44 = true := by kernel_rfl
theorem c_50 : callI Tryz.prog 50 = true := by kernel_rfl
theorem c_51 : callI Tryz.prog 51 = true := by kernel_rfl
theorem c_52 : callI Tryz.prog 52 = true := by kernel_rfl
theorem c_57 : callI Tryz.prog 57 = true := by kernel_rfl
theorem c_58 : callI Tryz.prog 58 = true := by kernel_rfl
theorem c_63 : callI Tryz.prog 63 = true := by kernel_rfl
theorem c_64 : callI Tryz.prog 64 = true := by kernel_rfl
theorem c_69 : callI Tryz.prog 69 = true := by kernel_rfl
theorem c_70 : callI Tryz.prog 70 = true := by kernel_rfl
theorem c_71 : callI Tryz.prog 71 = true := by kernel_rfl
theorem c_72 : callI Tryz.prog 72 = true := by kernel_rfl
theorem c_9 : callI Tryz.prog 9 = true := by kernel_rfl
theorem c_96 : callI Tryz.prog 96 = true := by kernel_rfl
theorem c_98 : callI Tryz.prog 98 = true := by kernel_rfl
theorem c_99 : callI Tryz.prog 99 = true := by kernel_rfl
theorem fd_234_0 : fieldI Tryz.prog 234 0 = some 0 := by kernel_rfl
theorem fd_234_1 : fieldI Tryz.prog 234 1 = some 1 := by kernel_rfl
theorem fd_234_2 : fieldI Tryz.prog 234 2 = some 2 := by kernel_rfl
theorem fd_92_0 : fieldI Tryz.prog 92 0 = some 0 := by kernel_rfl
theorem fd_92_1 : fieldI Tryz.prog 92 1 = some 1 := by kernel_rfl
theorem sl_167 : sliceI Tryz.prog 167 = some (25, 1, 24) := by kernel_rfl
theorem sl_205 : sliceI Tryz.prog 205 = some (234, 3, 40) := by kernel_rfl
theorem sl_89 : sliceI Tryz.prog 89 = some (65, 4, 64) := by kernel_rfl
theorem sl_90 : sliceI Tryz.prog 90 = some (205, 1, 24) := by kernel_rfl
theorem ty_205 : tyI Tryz.prog 205 = some (false, 1) := by kernel_rfl
theorem ty_234 : tyI Tryz.prog 234 = some (true, 3) := by kernel_rfl
theorem ty_30 : tyI Tryz.prog 30 = some (true, 8) := by kernel_rfl
theorem ty_89 : tyI Tryz.prog 89 = some (false, 1) := by kernel_rfl
theorem ty_90 : tyI Tryz.prog 90 = some (false, 1) := by kernel_rfl
theorem ty_92 : tyI Tryz.prog 92 = some (true, 2) := by kernel_rfl
theorem z_205 : zeroI Tryz.prog 205 = some (.slice none 0 0) := by kernel_rfl
theorem z_234 : zeroI Tryz.prog 234 = some (.agg #[.int .i64 0, .int .i64 0, .slice none 0 0]) := by kernel_rfl
theorem z_25 : zeroI Tryz.prog 25 = some (.slice none 0 0) := by kernel_rfl
theorem z_92 : zeroI Tryz.prog 92 = some (.agg #[.slice none 0 0, .slice none 0 0]) := by kernel_rfl
theorem zo_234 {Fz : FzT} {w : World} : OwnL [val (.int .i64 0), val (.int .i64 0), sl (.own 3 1) []] Fz w (Value.cells (.agg #[.int .i64 0, .int .i64 0, .slice none 0 0])).toList [] := zo_val rfl (zo_val rfl (zo_sl (zo_nil)))
theorem zo_92 {Fz : FzT} {w : World} : OwnL [sl (.own 65 4) [], sl (.own 205 1) []] Fz w (Value.cells (.agg #[.slice none 0 0, .slice none 0 0])).toList [] := zo_sl (zo_sl (zo_nil))
end Go.Proofs.YteflgldonmgejaaGreat
