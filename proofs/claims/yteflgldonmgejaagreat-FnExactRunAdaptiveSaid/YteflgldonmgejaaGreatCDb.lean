/- Facts about the types of the program. No condition. -/
import Derived.Test.YteflgldonmgejaaGreatProg
import Derived.Test.YteflgldonmgejaaGreatCDa
import Derived.KernelRfl
set_option linter.unusedVariables false
namespace Go.Proofs.YteflgldonmgejaaGreat
open Go Go.RowKit M
set_option maxRecDepth 10000
theorem hm_ : Tryz.prog.follows .mixedOrders = true := by kernel_rfl
theorem c_107 : callI Tryz.prog 107 = true := by kernel_rfl
theorem c_109 : callI Tryz.prog 109 = true := by kernel_rfl
theorem c_110 : callI Tryz.prog 110 = true := by kernel_rfl
theorem c_111 : callI Tryz.prog 111 = true := by kernel_rfl
theorem c_112 : callI Tryz.prog 112 = true := by kernel_rfl
theorem c_114 : callI Tryz.prog 114 = true := by kernel_rfl
theorem c_125 : callI Tryz.prog 125 = true := by kernel_rfl
theorem c_127 : callI Tryz.prog 127 = true := by kernel_rfl
theorem c_128 : callI Tryz.prog 128 = true := by kernel_rfl
theorem c_129 : callI Tryz.prog 129 = true := by kernel_rfl
theorem c_130 : callI Tryz.prog 130 = true := by kernel_rfl
theorem c_132 : callI Tryz.prog 132 = true := by kernel_rfl
theorem c_133 : callI Tryz.prog 133 = true := by kernel_rfl
theorem c_134 : callI Tryz.prog 134 = true := by kernel_rfl
theorem c_135 : callI Tryz.prog 135 = true := by kernel_rfl
theorem c_136 : callI Tryz.prog 136 = true := by kernel_rfl
theorem c_137 : callI Tryz.prog 137 = true := by kernel_rfl
theorem c_151 : callI Tryz.prog 151 = true := by kernel_rfl
theorem c_152 : callI Tryz.prog 152 = true := by kernel_rfl
theorem c_158 : callI Tryz.prog 158 = true := by kernel_rfl
theorem c_159 : callI Tryz.prog 159 = true := by kernel_rfl
theorem c_16 : callI Tryz.prog 16 = true := by kernel_rfl
theorem c_165 : callI Tryz.prog 165 = true := by kernel_rfl
theorem c_166 : callI Tryz.prog 166 = true := by kernel_rfl
theorem c_168 : callI Tryz.prog 168 = true := by kernel_rfl
theorem c_169 : callI Tryz.prog 169 = true := by kernel_rfl
theorem c_173 : callI Tryz.prog 173 = true := by kernel_rfl
theorem c_175 : callI Tryz.prog 175 = true := by kernel_rfl
theorem c_176 : callI Tryz.prog 176 = true := by kernel_rfl
theorem c_177 : callI Tryz.prog 177 = true := by kernel_rfl
theorem c_18 : callI Tryz.prog 18 = true := by kernel_rfl
theorem c_186 : callI Tryz.prog 186 = true := by kernel_rfl
theorem c_187 : callI Tryz.prog 187 = true := by kernel_rfl
theorem c_189 : callI Tryz.prog 189 = true := by kernel_rfl
theorem c_19 : callI Tryz.prog 19 = true := by kernel_rfl
theorem c_190 : callI Tryz.prog 190 = true := by kernel_rfl
theorem c_191 : callI Tryz.prog 191 = true := by kernel_rfl
theorem c_192 : callI Tryz.prog 192 = true := by kernel_rfl
theorem c_193 : callI Tryz.prog 193 = true := by kernel_rfl
theorem c_201 : callI Tryz.prog 201 = true := by kernel_rfl
theorem c_202 : callI Tryz.prog 202 = true := by kernel_rfl
theorem c_203 : callI Tryz.prog 203 = true := by kernel_rfl
theorem c_204 : callI Tryz.prog 204 = true := by kernel_rfl
theorem c_206 : callI Tryz.prog 206 = true := by kernel_rfl
theorem c_215 : callI Tryz.prog 215 = true := by kernel_rfl
theorem c_217 : callI Tryz.prog 217 = true := by kernel_rfl
theorem c_220 : callI Tryz.prog 220 = true := by kernel_rfl
theorem c_221 : callI Tryz.prog 221 = true := by kernel_rfl
theorem c_224 : callI Tryz.prog 224 = true := by kernel_rfl
theorem c_226 : callI Tryz.prog 226 = true := by kernel_rfl
theorem c_227 : callI Tryz.prog 227 = true := by kernel_rfl
theorem c_228 : callI Tryz.prog 228 = true := by kernel_rfl
theorem c_229 : callI Tryz.prog 229 = true := by kernel_rfl
theorem c_233 : callI Tryz.prog 233 = true := by kernel_rfl
theorem c_37 : callI Tryz.prog 37 = true := by kernel_rfl
theorem c_38 : callI Tryz.prog 38 = true := by kernel_rfl
theorem c_39 : callI Tryz.prog 39 = true := by kernel_rfl
theorem c_40 : callI Tryz.prog 40 = true := by kernel_rfl
theorem c_41 : callI Tryz.prog 41 = true := by kernel_rfl
theorem c_45 : callI Tryz.prog 45 = true := by kernel_rfl
theorem c_46 : callI Tryz.prog 46 = true := by kernel_rfl
theorem c_47 : callI Tryz.prog 47 = true := by kernel_rfl
theorem c_48 : callI Tryz.prog 48 = true := by kernel_rfl
theorem c_49 : callI Tryz.prog 49 = true := by kernel_rfl
theorem c_53 : callI Tryz.prog 53 = true := by kernel_rfl
theorem c_54 : callI Tryz.prog 54 = true := by kernel_rfl
theorem c_55 : callI Tryz.prog 55 = true := by kernel_rfl
theorem c_56 : callI Tryz.prog 56 = true := by kernel_rfl
theorem c_59 : callI Tryz.prog 59 = true := by kernel_rfl
theorem c_60 : callI Tryz.prog 60 = true := by kernel_rfl
theorem c_61 : callI Tryz.prog 61 = true := by kernel_rfl
theorem c_62 : callI Tryz.prog 62 = true := by kernel_rfl
theorem c_65 : callI Tryz.prog 65 = true := by kernel_rfl
theorem c_66 : callI Tryz.prog 66 = true := by kernel_rfl
theorem c_67 : callI Tryz.prog 67 = true := by kernel_rfl
theorem c_68 : callI Tryz.prog 68 = true := by kernel_rfl
theorem c_73 : callI Tryz.prog 73 = true := by kernel_rfl
theorem c_80 : callI Tryz.prog 80 = true := by kernel_rfl
theorem c_87 : callI Tryz.prog 87 = true := by kernel_rfl
theorem c_91 : callI Tryz.prog 91 = true := by kernel_rfl
theorem c_92 : callI Tryz.prog 92 = true := by kernel_rfl
theorem c_93 : callI Tryz.prog 93 = true := by kernel_rfl
theorem c_94 : callI Tryz.prog 94 = true := by kernel_rfl
theorem c_95 : callI Tryz.prog 95 = true := by kernel_rfl
theorem c_97 : callI Tryz.prog 97 = true := by kernel_rfl
theorem fd_130_0 : fieldI Tryz.prog 130 0 = some 0 := by kernel_rfl
theorem fd_130_1 : fieldI Tryz.prog 130 1 = some 4 := by kernel_rfl
theorem fd_130_2 : fieldI Tryz.prog 130 2 = some 5 := by kernel_rfl
theorem fd_130_3 : fieldI Tryz.prog 130 3 = some 6 := by kernel_rfl
theorem fd_130_4 : fieldI Tryz.prog 130 4 = some 7 := by kernel_rfl
theorem fd_130_5 : fieldI Tryz.prog 130 5 = some 8 := by kernel_rfl
theorem fd_130_6 : fieldI Tryz.prog 130 6 = some 9 := by kernel_rfl
theorem fd_133_0 : fieldI Tryz.prog 133 0 = some 0 := by kernel_rfl
theorem fd_133_1 : fieldI Tryz.prog 133 1 = some 4 := by kernel_rfl
theorem fd_133_2 : fieldI Tryz.prog 133 2 = some 5 := by kernel_rfl
theorem fd_133_3 : fieldI Tryz.prog 133 3 = some 6 := by kernel_rfl
theorem fd_136_0 : fieldI Tryz.prog 136 0 = some 0 := by kernel_rfl
theorem fd_136_1 : fieldI Tryz.prog 136 1 = some 1 := by kernel_rfl
theorem fd_136_2 : fieldI Tryz.prog 136 2 = some 2 := by kernel_rfl
theorem fd_136_3 : fieldI Tryz.prog 136 3 = some 3 := by kernel_rfl
theorem fd_136_4 : fieldI Tryz.prog 136 4 = some 4 := by kernel_rfl
theorem fd_142_0 : fieldI Tryz.prog 142 0 = some 0 := by kernel_rfl
theorem fd_142_1 : fieldI Tryz.prog 142 1 = some 4 := by kernel_rfl
theorem fd_142_2 : fieldI Tryz.prog 142 2 = some 5 := by kernel_rfl
theorem fd_142_3 : fieldI Tryz.prog 142 3 = some 6 := by kernel_rfl
theorem fd_142_4 : fieldI Tryz.prog 142 4 = some 7 := by kernel_rfl
theorem fd_142_5 : fieldI Tryz.prog 142 5 = some 8 := by kernel_rfl
theorem fd_142_6 : fieldI Tryz.prog 142 6 = some 9 := by kernel_rfl
theorem fd_144_0 : fieldI Tryz.prog 144 0 = some 0 := by kernel_rfl
theorem fd_144_1 : fieldI Tryz.prog 144 1 = some 4 := by kernel_rfl
theorem fd_144_2 : fieldI Tryz.prog 144 2 = some 5 := by kernel_rfl
theorem fd_144_3 : fieldI Tryz.prog 144 3 = some 6 := by kernel_rfl
theorem fd_148_0 : fieldI Tryz.prog 148 0 = some 0 := by kernel_rfl
theorem fd_148_1 : fieldI Tryz.prog 148 1 = some 1 := by kernel_rfl
theorem fd_148_2 : fieldI Tryz.prog 148 2 = some 2 := by kernel_rfl
theorem fd_148_3 : fieldI Tryz.prog 148 3 = some 3 := by kernel_rfl
theorem fd_148_4 : fieldI Tryz.prog 148 4 = some 4 := by kernel_rfl
theorem fd_151_0 : fieldI Tryz.prog 151 0 = some 0 := by kernel_rfl
theorem fd_151_1 : fieldI Tryz.prog 151 1 = some 1 := by kernel_rfl
theorem fd_151_2 : fieldI Tryz.prog 151 2 = some 2 := by kernel_rfl
theorem fd_151_3 : fieldI Tryz.prog 151 3 = some 3 := by kernel_rfl
theorem fd_193_0 : fieldI Tryz.prog 193 0 = some 0 := by kernel_rfl
theorem fd_193_1 : fieldI Tryz.prog 193 1 = some 1 := by kernel_rfl
theorem fd_193_2 : fieldI Tryz.prog 193 2 = some 2 := by kernel_rfl
theorem fd_228_0 : fieldI Tryz.prog 228 0 = some 0 := by kernel_rfl
theorem fd_228_1 : fieldI Tryz.prog 228 1 = some 1 := by kernel_rfl
theorem fd_228_2 : fieldI Tryz.prog 228 2 = some 2 := by kernel_rfl
theorem fd_231_0 : fieldI Tryz.prog 231 0 = some 0 := by kernel_rfl
theorem fd_231_1 : fieldI Tryz.prog 231 1 = some 1 := by kernel_rfl
theorem fd_231_2 : fieldI Tryz.prog 231 2 = some 2 := by kernel_rfl
theorem fd_231_3 : fieldI Tryz.prog 231 3 = some 3 := by kernel_rfl
theorem fd_24_0 : fieldI Tryz.prog 24 0 = some 0 := by kernel_rfl
theorem fd_24_1 : fieldI Tryz.prog 24 1 = some 1 := by kernel_rfl
theorem fd_30_0 : fieldI Tryz.prog 30 0 = some 0 := by kernel_rfl
theorem fd_30_1 : fieldI Tryz.prog 30 1 = some 2 := by kernel_rfl
theorem fd_30_2 : fieldI Tryz.prog 30 2 = some 3 := by kernel_rfl
theorem fd_30_3 : fieldI Tryz.prog 30 3 = some 4 := by kernel_rfl
theorem fd_30_4 : fieldI Tryz.prog 30 4 = some 5 := by kernel_rfl
theorem fd_30_5 : fieldI Tryz.prog 30 5 = some 6 := by kernel_rfl
theorem fd_30_6 : fieldI Tryz.prog 30 6 = some 7 := by kernel_rfl
theorem fd_35_0 : fieldI Tryz.prog 35 0 = some 0 := by kernel_rfl
theorem fd_35_1 : fieldI Tryz.prog 35 1 = some 1 := by kernel_rfl
theorem fd_40_0 : fieldI Tryz.prog 40 0 = some 0 := by kernel_rfl
theorem fd_40_1 : fieldI Tryz.prog 40 1 = some 2 := by kernel_rfl
theorem fd_40_2 : fieldI Tryz.prog 40 2 = some 3 := by kernel_rfl
theorem fd_40_3 : fieldI Tryz.prog 40 3 = some 4 := by kernel_rfl
theorem fd_40_4 : fieldI Tryz.prog 40 4 = some 5 := by kernel_rfl
theorem fd_40_5 : fieldI Tryz.prog 40 5 = some 6 := by kernel_rfl
theorem fd_40_6 : fieldI Tryz.prog 40 6 = some 7 := by kernel_rfl
theorem fd_53_0 : fieldI Tryz.prog 53 0 = some 0 := by kernel_rfl
theorem fd_53_1 : fieldI Tryz.prog 53 1 = some 1 := by kernel_rfl
theorem fd_53_2 : fieldI Tryz.prog 53 2 = some 2 := by kernel_rfl
theorem fd_53_3 : fieldI Tryz.prog 53 3 = some 3 := by kernel_rfl
theorem fd_55_0 : fieldI Tryz.prog 55 0 = some 0 := by kernel_rfl
theorem fd_55_1 : fieldI Tryz.prog 55 1 = some 1 := by kernel_rfl
theorem fd_65_0 : fieldI Tryz.prog 65 0 = some 0 := by kernel_rfl
theorem fd_65_1 : fieldI Tryz.prog 65 1 = some 1 := by kernel_rfl
theorem fd_65_2 : fieldI Tryz.prog 65 2 = some 2 := by kernel_rfl
theorem fd_65_3 : fieldI Tryz.prog 65 3 = some 3 := by kernel_rfl
theorem fd_66_0 : fieldI Tryz.prog 66 0 = some 0 := by kernel_rfl
theorem fd_66_1 : fieldI Tryz.prog 66 1 = some 1 := by kernel_rfl
theorem pl_66 : placesI Tryz.prog 66 = some [(0, 1), (1, 1)] := by kernel_rfl
theorem sl_128 : sliceI Tryz.prog 128 = some (55, 2, 32) := by kernel_rfl
theorem sl_149 : sliceI Tryz.prog 149 = some (151, 4, 48) := by kernel_rfl
theorem sl_195 : sliceI Tryz.prog 195 = some (231, 4, 48) := by kernel_rfl
theorem sl_22 : sliceI Tryz.prog 22 = some (195, 1, 24) := by kernel_rfl
theorem sl_25 : sliceI Tryz.prog 25 = some (3, 1, 8) := by kernel_rfl
theorem sl_26 : sliceI Tryz.prog 26 = some (130, 10, 144) := by kernel_rfl
theorem sl_27 : sliceI Tryz.prog 27 = some (133, 7, 104) := by kernel_rfl
theorem sl_28 : sliceI Tryz.prog 28 = some (136, 5, 88) := by kernel_rfl
theorem sl_33 : sliceI Tryz.prog 33 = some (149, 1, 24) := by kernel_rfl
theorem sl_36 : sliceI Tryz.prog 36 = some (142, 10, 144) := by kernel_rfl
theorem sl_37 : sliceI Tryz.prog 37 = some (144, 7, 104) := by kernel_rfl
theorem sl_38 : sliceI Tryz.prog 38 = some (148, 5, 88) := by kernel_rfl
theorem sl_51 : sliceI Tryz.prog 51 = some (228, 3, 24) := by kernel_rfl
theorem sl_63 : sliceI Tryz.prog 63 = some (193, 3, 24) := by kernel_rfl
theorem sl_93 : sliceI Tryz.prog 93 = some (66, 2, 32) := by kernel_rfl
theorem ty_128 : tyI Tryz.prog 128 = some (false, 1) := by kernel_rfl
theorem ty_130 : tyI Tryz.prog 130 = some (true, 10) := by kernel_rfl
theorem ty_133 : tyI Tryz.prog 133 = some (true, 7) := by kernel_rfl
theorem ty_136 : tyI Tryz.prog 136 = some (true, 5) := by kernel_rfl
theorem ty_142 : tyI Tryz.prog 142 = some (true, 10) := by kernel_rfl
theorem ty_144 : tyI Tryz.prog 144 = some (true, 7) := by kernel_rfl
theorem ty_148 : tyI Tryz.prog 148 = some (true, 5) := by kernel_rfl
theorem ty_149 : tyI Tryz.prog 149 = some (false, 1) := by kernel_rfl
theorem ty_151 : tyI Tryz.prog 151 = some (true, 4) := by kernel_rfl
theorem ty_193 : tyI Tryz.prog 193 = some (true, 3) := by kernel_rfl
theorem ty_195 : tyI Tryz.prog 195 = some (false, 1) := by kernel_rfl
theorem ty_22 : tyI Tryz.prog 22 = some (false, 1) := by kernel_rfl
theorem ty_228 : tyI Tryz.prog 228 = some (true, 3) := by kernel_rfl
theorem ty_231 : tyI Tryz.prog 231 = some (true, 4) := by kernel_rfl
theorem ty_24 : tyI Tryz.prog 24 = some (true, 2) := by kernel_rfl
theorem ty_25 : tyI Tryz.prog 25 = some (false, 1) := by kernel_rfl
theorem ty_26 : tyI Tryz.prog 26 = some (false, 1) := by kernel_rfl
theorem ty_27 : tyI Tryz.prog 27 = some (false, 1) := by kernel_rfl
theorem ty_28 : tyI Tryz.prog 28 = some (false, 1) := by kernel_rfl
theorem ty_3 : tyI Tryz.prog 3 = some (false, 1) := by kernel_rfl
theorem ty_33 : tyI Tryz.prog 33 = some (false, 1) := by kernel_rfl
theorem ty_35 : tyI Tryz.prog 35 = some (true, 2) := by kernel_rfl
theorem ty_36 : tyI Tryz.prog 36 = some (false, 1) := by kernel_rfl
theorem ty_37 : tyI Tryz.prog 37 = some (false, 1) := by kernel_rfl
theorem ty_38 : tyI Tryz.prog 38 = some (false, 1) := by kernel_rfl
theorem ty_40 : tyI Tryz.prog 40 = some (true, 8) := by kernel_rfl
theorem ty_51 : tyI Tryz.prog 51 = some (false, 1) := by kernel_rfl
theorem ty_53 : tyI Tryz.prog 53 = some (true, 4) := by kernel_rfl
theorem ty_55 : tyI Tryz.prog 55 = some (true, 2) := by kernel_rfl
theorem ty_63 : tyI Tryz.prog 63 = some (false, 1) := by kernel_rfl
theorem ty_65 : tyI Tryz.prog 65 = some (true, 4) := by kernel_rfl
theorem ty_66 : tyI Tryz.prog 66 = some (true, 2) := by kernel_rfl
theorem ty_93 : tyI Tryz.prog 93 = some (false, 1) := by kernel_rfl
theorem z_142 : zeroI Tryz.prog 142 = some (.agg #[.int .i64 0, .int .i64 0, .slice none 0 0, .slice none 0 0, .int .i64 0, .slice none 0 0, .int .i64 0, .int .i64 0, .int .i64 0, .slice none 0 0]) := by kernel_rfl
theorem z_144 : zeroI Tryz.prog 144 = some (.agg #[.int .i64 0, .int .i64 0, .slice none 0 0, .slice none 0 0, .int .i64 0, .int .i64 0, .slice none 0 0]) := by kernel_rfl
theorem z_148 : zeroI Tryz.prog 148 = some (.agg #[.int .i64 0, .int .i64 0, .slice none 0 0, .slice none 0 0, .slice none 0 0]) := by kernel_rfl
theorem z_149 : zeroI Tryz.prog 149 = some (.slice none 0 0) := by kernel_rfl
theorem z_151 : zeroI Tryz.prog 151 = some (.agg #[.int .i64 0, .slice none 0 0, .int .i64 0, .int .i64 0]) := by kernel_rfl
theorem z_193 : zeroI Tryz.prog 193 = some (.agg #[.int .i64 0, .int .i64 0, .int .i64 0]) := by kernel_rfl
theorem z_3 : zeroI Tryz.prog 3 = some (.int .i64 0) := by kernel_rfl
theorem z_35 : zeroI Tryz.prog 35 = some (.agg #[.slice none 0 0, .int .i64 0]) := by kernel_rfl
theorem z_40 : zeroI Tryz.prog 40 = some (.agg #[.slice none 0 0, .int .i64 0, .int .i64 0, .slice none 0 0, .slice none 0 0, .slice none 0 0, .slice none 0 0, .int .i64 0]) := by kernel_rfl
theorem z_65 : zeroI Tryz.prog 65 = some (.agg #[.int .i64 0, .int .i64 0, .slice none 0 0, .slice none 0 0]) := by kernel_rfl
theorem z_66 : zeroI Tryz.prog 66 = some (.agg #[.int .i64 0, .slice none 0 0]) := by kernel_rfl
theorem zo_142 {Fz : FzT} {w : World} : OwnL [PV.val (.int .i64 0), PV.val (.int .i64 0), PV.sl (.own 193 3) [], PV.sl (.own 3 1) [], PV.val (.int .i64 0), PV.sl (.own 3 1) [], PV.val (.int .i64 0), PV.val (.int .i64 0), PV.val (.int .i64 0), PV.sl (.own 66 2) []] Fz w (Value.cells (.agg #[.int .i64 0, .int .i64 0, .slice none 0 0, .slice none 0 0, .int .i64 0, .slice none 0 0, .int .i64 0, .int .i64 0, .int .i64 0, .slice none 0 0])).toList [] := zo_val rfl (zo_val rfl (zo_sl (zo_sl (zo_val rfl (zo_sl (zo_val rfl (zo_val rfl (zo_val rfl (zo_sl (zo_nil))))))))))
theorem zo_144 {Fz : FzT} {w : World} : OwnL [PV.val (.int .i64 0), PV.val (.int .i64 0), PV.sl (.own 193 3) [], PV.sl (.own 3 1) [], PV.val (.int .i64 0), PV.val (.int .i64 0), PV.sl (.own 66 2) []] Fz w (Value.cells (.agg #[.int .i64 0, .int .i64 0, .slice none 0 0, .slice none 0 0, .int .i64 0, .int .i64 0, .slice none 0 0])).toList [] := zo_val rfl (zo_val rfl (zo_sl (zo_sl (zo_val rfl (zo_val rfl (zo_sl (zo_nil)))))))
theorem zo_148 {Fz : FzT} {w : World} : OwnL [PV.val (.int .i64 0), PV.val (.int .i64 0), PV.sl (.own 3 1) [], PV.sl (.own 3 1) [], PV.sl (.own 3 1) []] Fz w (Value.cells (.agg #[.int .i64 0, .int .i64 0, .slice none 0 0, .slice none 0 0, .slice none 0 0])).toList [] := zo_val rfl (zo_val rfl (zo_sl (zo_sl (zo_sl (zo_nil)))))
theorem zo_149 {Fz : FzT} {w : World} : OwnL [PV.sl (.own 151 4) []] Fz w (Value.cells (.slice none 0 0)).toList [] := zo_sl (zo_nil)
theorem zo_151 {Fz : FzT} {w : World} : OwnL [PV.val (.int .i64 0), PV.sl (.own 3 1) [], PV.val (.int .i64 0), PV.val (.int .i64 0)] Fz w (Value.cells (.agg #[.int .i64 0, .slice none 0 0, .int .i64 0, .int .i64 0])).toList [] := zo_val rfl (zo_sl (zo_val rfl (zo_val rfl (zo_nil))))
theorem zo_193 {Fz : FzT} {w : World} : OwnL [PV.val (.int .i64 0), PV.val (.int .i64 0), PV.val (.int .i64 0)] Fz w (Value.cells (.agg #[.int .i64 0, .int .i64 0, .int .i64 0])).toList [] := zo_val rfl (zo_val rfl (zo_val rfl (zo_nil)))
theorem zo_3 {Fz : FzT} {w : World} : OwnL [PV.val (.int .i64 0)] Fz w (Value.cells (.int .i64 0)).toList [] := zo_val rfl (zo_nil)
theorem zo_35 {Fz : FzT} {w : World} : OwnL [PV.sl (.own 149 1) [], PV.val (.int .i64 0)] Fz w (Value.cells (.agg #[.slice none 0 0, .int .i64 0])).toList [] := zo_sl (zo_val rfl (zo_nil))
theorem zo_40 {Fz : FzT} {w : World} : OwnL [PV.sl (.own 149 1) [], PV.val (.int .i64 0), PV.val (.int .i64 0), PV.sl (.own 3 1) [], PV.sl (.own 142 10) [], PV.sl (.own 144 7) [], PV.sl (.own 148 5) [], PV.val (.int .i64 0)] Fz w (Value.cells (.agg #[.slice none 0 0, .int .i64 0, .int .i64 0, .slice none 0 0, .slice none 0 0, .slice none 0 0, .slice none 0 0, .int .i64 0])).toList [] := zo_sl (zo_val rfl (zo_val rfl (zo_sl (zo_sl (zo_sl (zo_sl (zo_val rfl (zo_nil))))))))
theorem zo_65 {Fz : FzT} {w : World} : OwnL [PV.val (.int .i64 0), PV.val (.int .i64 0), PV.sl (.own 193 3) [], PV.sl (.own 3 1) []] Fz w (Value.cells (.agg #[.int .i64 0, .int .i64 0, .slice none 0 0, .slice none 0 0])).toList [] := zo_val rfl (zo_val rfl (zo_sl (zo_sl (zo_nil))))
theorem zo_66 {Fz : FzT} {w : World} : OwnL [PV.val (.int .i64 0), PV.sl (.own 3 1) []] Fz w (Value.cells (.agg #[.int .i64 0, .slice none 0 0])).toList [] := zo_val rfl (zo_sl (zo_nil))
end Go.Proofs.YteflgldonmgejaaGreat
