/- Facts about the types of the program. No condition. -/
import Derived.Test.YteflgldonmgejaaGreatDoorProg
import Derived.Test.YteflgldonmgejaaGreatDoorCDa
import Derived.KernelRfl
set_option linter.unusedVariables false
namespace Go.Proofs.YteflgldonmgejaaGreatDoor
open Go Go.RowKit M
set_option maxRecDepth 10000
theorem hm_ : Tryz.prog.follows .mixedOrders = true := by kernel_rfl
theorem c_102 : callI Tryz.prog 102 = true := by kernel_rfl
theorem c_103 : callI Tryz.prog 103 = true := by kernel_rfl
theorem c_104 : callI Tryz.prog 104 = true := by kernel_rfl
theorem c_105 : callI Tryz.prog 105 = true := by kernel_rfl
theorem c_106 : callI Tryz.prog 106 = true := by kernel_rfl
theorem c_107 : callI Tryz.prog 107 = true := by kernel_rfl
theorem c_108 : callI Tryz.prog 108 = true := by kernel_rfl
theorem c_126 : callI Tryz.prog 126 = true := by kernel_rfl
theorem c_127 : callI Tryz.prog 127 = true := by kernel_rfl
theorem c_146 : callI Tryz.prog 146 = true := by kernel_rfl
theorem c_147 : callI Tryz.prog 147 = true := by kernel_rfl
theorem c_148 : callI Tryz.prog 148 = true := by kernel_rfl
theorem c_153 : callI Tryz.prog 153 = true := by kernel_rfl
theorem c_154 : callI Tryz.prog 154 = true := by kernel_rfl
theorem c_155 : callI Tryz.prog 155 = true := by kernel_rfl
theorem c_157 : callI Tryz.prog 157 = true := by kernel_rfl
theorem c_158 : callI Tryz.prog 158 = true := by kernel_rfl
theorem c_159 : callI Tryz.prog 159 = true := by kernel_rfl
theorem c_160 : callI Tryz.prog 160 = true := by kernel_rfl
theorem c_164 : callI Tryz.prog 164 = true := by kernel_rfl
theorem c_165 : callI Tryz.prog 165 = true := by kernel_rfl
theorem c_166 : callI Tryz.prog 166 = true := by kernel_rfl
theorem c_171 : callI Tryz.prog 171 = true := by kernel_rfl
theorem c_172 : callI Tryz.prog 172 = true := by kernel_rfl
theorem c_173 : callI Tryz.prog 173 = true := by kernel_rfl
theorem c_189 : callI Tryz.prog 189 = true := by kernel_rfl
theorem c_220 : callI Tryz.prog 220 = true := by kernel_rfl
theorem c_221 : callI Tryz.prog 221 = true := by kernel_rfl
theorem c_222 : callI Tryz.prog 222 = true := by kernel_rfl
theorem c_223 : callI Tryz.prog 223 = true := by kernel_rfl
theorem c_224 : callI Tryz.prog 224 = true := by kernel_rfl
theorem c_225 : callI Tryz.prog 225 = true := by kernel_rfl
theorem c_230 : callI Tryz.prog 230 = true := by kernel_rfl
theorem c_25 : callI Tryz.prog 25 = true := by kernel_rfl
theorem c_26 : callI Tryz.prog 26 = true := by kernel_rfl
theorem c_27 : callI Tryz.prog 27 = true := by kernel_rfl
theorem c_272 : callI Tryz.prog 272 = true := by kernel_rfl
theorem c_28 : callI Tryz.prog 28 = true := by kernel_rfl
theorem c_29 : callI Tryz.prog 29 = true := by kernel_rfl
theorem c_33 : callI Tryz.prog 33 = true := by kernel_rfl
theorem c_34 : callI Tryz.prog 34 = true := by kernel_rfl
theorem c_35 : callI Tryz.prog 35 = true := by kernel_rfl
theorem c_36 : callI Tryz.prog 36 = true := by kernel_rfl
theorem c_37 : callI Tryz.prog 37 = true := by kernel_rfl
theorem c_42 : callI Tryz.prog 42 = true := by kernel_rfl
theorem c_43 : callI Tryz.prog 43 = true := by kernel_rfl
theorem c_44 : callI Tryz.prog 44 = true := by kernel_rfl
theorem c_45 : callI Tryz.prog 45 = true := by kernel_rfl
theorem c_46 : callI Tryz.prog 46 = true := by kernel_rfl
theorem c_49 : callI Tryz.prog 49 = true := by kernel_rfl
theorem c_50 : callI Tryz.prog 50 = true := by kernel_rfl
theorem c_51 : callI Tryz.prog 51 = true := by kernel_rfl
theorem c_52 : callI Tryz.prog 52 = true := by kernel_rfl
theorem c_53 : callI Tryz.prog 53 = true := by kernel_rfl
theorem c_66 : callI Tryz.prog 66 = true := by kernel_rfl
theorem c_75 : callI Tryz.prog 75 = true := by kernel_rfl
theorem c_76 : callI Tryz.prog 76 = true := by kernel_rfl
theorem c_77 : callI Tryz.prog 77 = true := by kernel_rfl
theorem c_78 : callI Tryz.prog 78 = true := by kernel_rfl
theorem c_80 : callI Tryz.prog 80 = true := by kernel_rfl
theorem c_87 : callI Tryz.prog 87 = true := by kernel_rfl
theorem c_88 : callI Tryz.prog 88 = true := by kernel_rfl
theorem c_89 : callI Tryz.prog 89 = true := by kernel_rfl
theorem c_90 : callI Tryz.prog 90 = true := by kernel_rfl
theorem c_92 : callI Tryz.prog 92 = true := by kernel_rfl
theorem fd_117_0 : fieldI Tryz.prog 117 0 = some 0 := by kernel_rfl
theorem fd_117_1 : fieldI Tryz.prog 117 1 = some 1 := by kernel_rfl
theorem fd_117_2 : fieldI Tryz.prog 117 2 = some 2 := by kernel_rfl
theorem fd_117_3 : fieldI Tryz.prog 117 3 = some 3 := by kernel_rfl
theorem fd_120_0 : fieldI Tryz.prog 120 0 = some 0 := by kernel_rfl
theorem fd_120_1 : fieldI Tryz.prog 120 1 = some 4 := by kernel_rfl
theorem fd_120_2 : fieldI Tryz.prog 120 2 = some 5 := by kernel_rfl
theorem fd_120_3 : fieldI Tryz.prog 120 3 = some 6 := by kernel_rfl
theorem fd_120_4 : fieldI Tryz.prog 120 4 = some 7 := by kernel_rfl
theorem fd_120_5 : fieldI Tryz.prog 120 5 = some 8 := by kernel_rfl
theorem fd_120_6 : fieldI Tryz.prog 120 6 = some 9 := by kernel_rfl
theorem fd_123_0 : fieldI Tryz.prog 123 0 = some 0 := by kernel_rfl
theorem fd_123_1 : fieldI Tryz.prog 123 1 = some 4 := by kernel_rfl
theorem fd_123_2 : fieldI Tryz.prog 123 2 = some 5 := by kernel_rfl
theorem fd_123_3 : fieldI Tryz.prog 123 3 = some 6 := by kernel_rfl
theorem fd_126_0 : fieldI Tryz.prog 126 0 = some 0 := by kernel_rfl
theorem fd_126_1 : fieldI Tryz.prog 126 1 = some 1 := by kernel_rfl
theorem fd_126_2 : fieldI Tryz.prog 126 2 = some 2 := by kernel_rfl
theorem fd_126_3 : fieldI Tryz.prog 126 3 = some 3 := by kernel_rfl
theorem fd_126_4 : fieldI Tryz.prog 126 4 = some 4 := by kernel_rfl
theorem fd_132_0 : fieldI Tryz.prog 132 0 = some 0 := by kernel_rfl
theorem fd_132_1 : fieldI Tryz.prog 132 1 = some 4 := by kernel_rfl
theorem fd_132_2 : fieldI Tryz.prog 132 2 = some 5 := by kernel_rfl
theorem fd_132_3 : fieldI Tryz.prog 132 3 = some 6 := by kernel_rfl
theorem fd_136_0 : fieldI Tryz.prog 136 0 = some 0 := by kernel_rfl
theorem fd_136_1 : fieldI Tryz.prog 136 1 = some 1 := by kernel_rfl
theorem fd_136_2 : fieldI Tryz.prog 136 2 = some 2 := by kernel_rfl
theorem fd_136_3 : fieldI Tryz.prog 136 3 = some 3 := by kernel_rfl
theorem fd_136_4 : fieldI Tryz.prog 136 4 = some 4 := by kernel_rfl
theorem fd_165_0 : fieldI Tryz.prog 165 0 = some 0 := by kernel_rfl
theorem fd_165_1 : fieldI Tryz.prog 165 1 = some 1 := by kernel_rfl
theorem fd_165_2 : fieldI Tryz.prog 165 2 = some 2 := by kernel_rfl
theorem fd_195_0 : fieldI Tryz.prog 195 0 = some 0 := by kernel_rfl
theorem fd_195_1 : fieldI Tryz.prog 195 1 = some 1 := by kernel_rfl
theorem fd_195_2 : fieldI Tryz.prog 195 2 = some 2 := by kernel_rfl
theorem fd_195_3 : fieldI Tryz.prog 195 3 = some 3 := by kernel_rfl
theorem fd_231_0 : fieldI Tryz.prog 231 0 = some 0 := by kernel_rfl
theorem fd_231_1 : fieldI Tryz.prog 231 1 = some 1 := by kernel_rfl
theorem fd_231_2 : fieldI Tryz.prog 231 2 = some 2 := by kernel_rfl
theorem fd_231_3 : fieldI Tryz.prog 231 3 = some 3 := by kernel_rfl
theorem fd_234_0 : fieldI Tryz.prog 234 0 = some 0 := by kernel_rfl
theorem fd_234_1 : fieldI Tryz.prog 234 1 = some 1 := by kernel_rfl
theorem fd_24_0 : fieldI Tryz.prog 24 0 = some 0 := by kernel_rfl
theorem fd_24_1 : fieldI Tryz.prog 24 1 = some 1 := by kernel_rfl
theorem fd_273_0 : fieldI Tryz.prog 273 0 = some 0 := by kernel_rfl
theorem fd_273_1 : fieldI Tryz.prog 273 1 = some 1 := by kernel_rfl
theorem fd_273_2 : fieldI Tryz.prog 273 2 = some 2 := by kernel_rfl
theorem fd_30_0 : fieldI Tryz.prog 30 0 = some 0 := by kernel_rfl
theorem fd_30_1 : fieldI Tryz.prog 30 1 = some 2 := by kernel_rfl
theorem fd_30_2 : fieldI Tryz.prog 30 2 = some 3 := by kernel_rfl
theorem fd_30_3 : fieldI Tryz.prog 30 3 = some 4 := by kernel_rfl
theorem fd_30_4 : fieldI Tryz.prog 30 4 = some 5 := by kernel_rfl
theorem fd_30_5 : fieldI Tryz.prog 30 5 = some 6 := by kernel_rfl
theorem fd_30_6 : fieldI Tryz.prog 30 6 = some 7 := by kernel_rfl
theorem fd_35_0 : fieldI Tryz.prog 35 0 = some 0 := by kernel_rfl
theorem fd_35_1 : fieldI Tryz.prog 35 1 = some 1 := by kernel_rfl
theorem fd_40_0 : fieldI Tryz.prog 40 0 = some 0 := by kernel_rfl
theorem fd_40_1 : fieldI Tryz.prog 40 1 = some 2 := by kernel_rfl
theorem fd_40_2 : fieldI Tryz.prog 40 2 = some 3 := by kernel_rfl
theorem fd_40_3 : fieldI Tryz.prog 40 3 = some 4 := by kernel_rfl
theorem fd_40_4 : fieldI Tryz.prog 40 4 = some 5 := by kernel_rfl
theorem fd_40_5 : fieldI Tryz.prog 40 5 = some 6 := by kernel_rfl
theorem fd_40_6 : fieldI Tryz.prog 40 6 = some 7 := by kernel_rfl
theorem fd_51_0 : fieldI Tryz.prog 51 0 = some 0 := by kernel_rfl
theorem fd_51_1 : fieldI Tryz.prog 51 1 = some 1 := by kernel_rfl
theorem fd_51_2 : fieldI Tryz.prog 51 2 = some 2 := by kernel_rfl
theorem fd_51_3 : fieldI Tryz.prog 51 3 = some 3 := by kernel_rfl
theorem fd_53_0 : fieldI Tryz.prog 53 0 = some 0 := by kernel_rfl
theorem fd_53_1 : fieldI Tryz.prog 53 1 = some 1 := by kernel_rfl
theorem fd_85_0 : fieldI Tryz.prog 85 0 = some 0 := by kernel_rfl
theorem fd_85_1 : fieldI Tryz.prog 85 1 = some 4 := by kernel_rfl
theorem fd_85_2 : fieldI Tryz.prog 85 2 = some 5 := by kernel_rfl
theorem fd_85_3 : fieldI Tryz.prog 85 3 = some 6 := by kernel_rfl
theorem fd_85_4 : fieldI Tryz.prog 85 4 = some 7 := by kernel_rfl
theorem fd_85_5 : fieldI Tryz.prog 85 5 = some 8 := by kernel_rfl
theorem fd_85_6 : fieldI Tryz.prog 85 6 = some 9 := by kernel_rfl
theorem sl_115 : sliceI Tryz.prog 115 = some (273, 3, 24) := by kernel_rfl
theorem sl_118 : sliceI Tryz.prog 118 = some (234, 2, 32) := by kernel_rfl
theorem sl_138 : sliceI Tryz.prog 138 = some (195, 4, 48) := by kernel_rfl
theorem sl_190 : sliceI Tryz.prog 190 = some (231, 4, 48) := by kernel_rfl
theorem sl_22 : sliceI Tryz.prog 22 = some (190, 1, 24) := by kernel_rfl
theorem sl_25 : sliceI Tryz.prog 25 = some (3, 1, 8) := by kernel_rfl
theorem sl_26 : sliceI Tryz.prog 26 = some (120, 10, 144) := by kernel_rfl
theorem sl_27 : sliceI Tryz.prog 27 = some (123, 7, 104) := by kernel_rfl
theorem sl_28 : sliceI Tryz.prog 28 = some (126, 5, 88) := by kernel_rfl
theorem sl_33 : sliceI Tryz.prog 33 = some (138, 1, 24) := by kernel_rfl
theorem sl_36 : sliceI Tryz.prog 36 = some (85, 10, 144) := by kernel_rfl
theorem sl_37 : sliceI Tryz.prog 37 = some (132, 7, 104) := by kernel_rfl
theorem sl_38 : sliceI Tryz.prog 38 = some (136, 5, 88) := by kernel_rfl
theorem sl_49 : sliceI Tryz.prog 49 = some (165, 3, 24) := by kernel_rfl
theorem sl_83 : sliceI Tryz.prog 83 = some (53, 2, 32) := by kernel_rfl
theorem ty_115 : tyI Tryz.prog 115 = some (false, 1) := by kernel_rfl
theorem ty_117 : tyI Tryz.prog 117 = some (true, 4) := by kernel_rfl
theorem ty_118 : tyI Tryz.prog 118 = some (false, 1) := by kernel_rfl
theorem ty_120 : tyI Tryz.prog 120 = some (true, 10) := by kernel_rfl
theorem ty_123 : tyI Tryz.prog 123 = some (true, 7) := by kernel_rfl
theorem ty_126 : tyI Tryz.prog 126 = some (true, 5) := by kernel_rfl
theorem ty_132 : tyI Tryz.prog 132 = some (true, 7) := by kernel_rfl
theorem ty_136 : tyI Tryz.prog 136 = some (true, 5) := by kernel_rfl
theorem ty_138 : tyI Tryz.prog 138 = some (false, 1) := by kernel_rfl
theorem ty_165 : tyI Tryz.prog 165 = some (true, 3) := by kernel_rfl
theorem ty_190 : tyI Tryz.prog 190 = some (false, 1) := by kernel_rfl
theorem ty_195 : tyI Tryz.prog 195 = some (true, 4) := by kernel_rfl
theorem ty_22 : tyI Tryz.prog 22 = some (false, 1) := by kernel_rfl
theorem ty_231 : tyI Tryz.prog 231 = some (true, 4) := by kernel_rfl
theorem ty_234 : tyI Tryz.prog 234 = some (true, 2) := by kernel_rfl
theorem ty_24 : tyI Tryz.prog 24 = some (true, 2) := by kernel_rfl
theorem ty_25 : tyI Tryz.prog 25 = some (false, 1) := by kernel_rfl
theorem ty_26 : tyI Tryz.prog 26 = some (false, 1) := by kernel_rfl
theorem ty_27 : tyI Tryz.prog 27 = some (false, 1) := by kernel_rfl
theorem ty_273 : tyI Tryz.prog 273 = some (true, 3) := by kernel_rfl
theorem ty_28 : tyI Tryz.prog 28 = some (false, 1) := by kernel_rfl
theorem ty_3 : tyI Tryz.prog 3 = some (false, 1) := by kernel_rfl
theorem ty_33 : tyI Tryz.prog 33 = some (false, 1) := by kernel_rfl
theorem ty_35 : tyI Tryz.prog 35 = some (true, 2) := by kernel_rfl
theorem ty_36 : tyI Tryz.prog 36 = some (false, 1) := by kernel_rfl
theorem ty_37 : tyI Tryz.prog 37 = some (false, 1) := by kernel_rfl
theorem ty_38 : tyI Tryz.prog 38 = some (false, 1) := by kernel_rfl
theorem ty_40 : tyI Tryz.prog 40 = some (true, 8) := by kernel_rfl
theorem ty_49 : tyI Tryz.prog 49 = some (false, 1) := by kernel_rfl
theorem ty_51 : tyI Tryz.prog 51 = some (true, 4) := by kernel_rfl
theorem ty_53 : tyI Tryz.prog 53 = some (true, 2) := by kernel_rfl
theorem ty_83 : tyI Tryz.prog 83 = some (false, 1) := by kernel_rfl
theorem ty_85 : tyI Tryz.prog 85 = some (true, 10) := by kernel_rfl
theorem z_132 : zeroI Tryz.prog 132 = some (.agg #[.int .i64 0, .int .i64 0, .slice none 0 0, .slice none 0 0, .int .i64 0, .int .i64 0, .slice none 0 0]) := by kernel_rfl
theorem z_136 : zeroI Tryz.prog 136 = some (.agg #[.int .i64 0, .int .i64 0, .slice none 0 0, .slice none 0 0, .slice none 0 0]) := by kernel_rfl
theorem z_138 : zeroI Tryz.prog 138 = some (.slice none 0 0) := by kernel_rfl
theorem z_165 : zeroI Tryz.prog 165 = some (.agg #[.int .i64 0, .int .i64 0, .int .i64 0]) := by kernel_rfl
theorem z_195 : zeroI Tryz.prog 195 = some (.agg #[.int .i64 0, .slice none 0 0, .int .i64 0, .int .i64 0]) := by kernel_rfl
theorem z_3 : zeroI Tryz.prog 3 = some (.int .i64 0) := by kernel_rfl
theorem z_35 : zeroI Tryz.prog 35 = some (.agg #[.slice none 0 0, .int .i64 0]) := by kernel_rfl
theorem z_40 : zeroI Tryz.prog 40 = some (.agg #[.slice none 0 0, .int .i64 0, .int .i64 0, .slice none 0 0, .slice none 0 0, .slice none 0 0, .slice none 0 0, .int .i64 0]) := by kernel_rfl
theorem z_51 : zeroI Tryz.prog 51 = some (.agg #[.int .i64 0, .int .i64 0, .slice none 0 0, .slice none 0 0]) := by kernel_rfl
theorem z_53 : zeroI Tryz.prog 53 = some (.agg #[.int .i64 0, .slice none 0 0]) := by kernel_rfl
theorem z_85 : zeroI Tryz.prog 85 = some (.agg #[.int .i64 0, .int .i64 0, .slice none 0 0, .slice none 0 0, .int .i64 0, .slice none 0 0, .int .i64 0, .int .i64 0, .int .i64 0, .slice none 0 0]) := by kernel_rfl
theorem zo_132 {Fz : FzT} {w : World} : OwnL [PV.val (.int .i64 0), PV.val (.int .i64 0), PV.sl (.own 165 3) [], PV.sl (.own 3 1) [], PV.val (.int .i64 0), PV.val (.int .i64 0), PV.sl (.own 53 2) []] Fz w (Value.cells (.agg #[.int .i64 0, .int .i64 0, .slice none 0 0, .slice none 0 0, .int .i64 0, .int .i64 0, .slice none 0 0])).toList [] := zo_val rfl (zo_val rfl (zo_sl (zo_sl (zo_val rfl (zo_val rfl (zo_sl (zo_nil)))))))
theorem zo_136 {Fz : FzT} {w : World} : OwnL [PV.val (.int .i64 0), PV.val (.int .i64 0), PV.sl (.own 3 1) [], PV.sl (.own 3 1) [], PV.sl (.own 3 1) []] Fz w (Value.cells (.agg #[.int .i64 0, .int .i64 0, .slice none 0 0, .slice none 0 0, .slice none 0 0])).toList [] := zo_val rfl (zo_val rfl (zo_sl (zo_sl (zo_sl (zo_nil)))))
theorem zo_138 {Fz : FzT} {w : World} : OwnL [PV.sl (.own 195 4) []] Fz w (Value.cells (.slice none 0 0)).toList [] := zo_sl (zo_nil)
theorem zo_165 {Fz : FzT} {w : World} : OwnL [PV.val (.int .i64 0), PV.val (.int .i64 0), PV.val (.int .i64 0)] Fz w (Value.cells (.agg #[.int .i64 0, .int .i64 0, .int .i64 0])).toList [] := zo_val rfl (zo_val rfl (zo_val rfl (zo_nil)))
theorem zo_195 {Fz : FzT} {w : World} : OwnL [PV.val (.int .i64 0), PV.sl (.own 3 1) [], PV.val (.int .i64 0), PV.val (.int .i64 0)] Fz w (Value.cells (.agg #[.int .i64 0, .slice none 0 0, .int .i64 0, .int .i64 0])).toList [] := zo_val rfl (zo_sl (zo_val rfl (zo_val rfl (zo_nil))))
theorem zo_3 {Fz : FzT} {w : World} : OwnL [PV.val (.int .i64 0)] Fz w (Value.cells (.int .i64 0)).toList [] := zo_val rfl (zo_nil)
theorem zo_35 {Fz : FzT} {w : World} : OwnL [PV.sl (.own 138 1) [], PV.val (.int .i64 0)] Fz w (Value.cells (.agg #[.slice none 0 0, .int .i64 0])).toList [] := zo_sl (zo_val rfl (zo_nil))
theorem zo_40 {Fz : FzT} {w : World} : OwnL [PV.sl (.own 138 1) [], PV.val (.int .i64 0), PV.val (.int .i64 0), PV.sl (.own 3 1) [], PV.sl (.own 85 10) [], PV.sl (.own 132 7) [], PV.sl (.own 136 5) [], PV.val (.int .i64 0)] Fz w (Value.cells (.agg #[.slice none 0 0, .int .i64 0, .int .i64 0, .slice none 0 0, .slice none 0 0, .slice none 0 0, .slice none 0 0, .int .i64 0])).toList [] := zo_sl (zo_val rfl (zo_val rfl (zo_sl (zo_sl (zo_sl (zo_sl (zo_val rfl (zo_nil))))))))
theorem zo_51 {Fz : FzT} {w : World} : OwnL [PV.val (.int .i64 0), PV.val (.int .i64 0), PV.sl (.own 165 3) [], PV.sl (.own 3 1) []] Fz w (Value.cells (.agg #[.int .i64 0, .int .i64 0, .slice none 0 0, .slice none 0 0])).toList [] := zo_val rfl (zo_val rfl (zo_sl (zo_sl (zo_nil))))
theorem zo_53 {Fz : FzT} {w : World} : OwnL [PV.val (.int .i64 0), PV.sl (.own 3 1) []] Fz w (Value.cells (.agg #[.int .i64 0, .slice none 0 0])).toList [] := zo_val rfl (zo_sl (zo_nil))
theorem zo_85 {Fz : FzT} {w : World} : OwnL [PV.val (.int .i64 0), PV.val (.int .i64 0), PV.sl (.own 165 3) [], PV.sl (.own 3 1) [], PV.val (.int .i64 0), PV.sl (.own 3 1) [], PV.val (.int .i64 0), PV.val (.int .i64 0), PV.val (.int .i64 0), PV.sl (.own 53 2) []] Fz w (Value.cells (.agg #[.int .i64 0, .int .i64 0, .slice none 0 0, .slice none 0 0, .int .i64 0, .slice none 0 0, .int .i64 0, .int .i64 0, .int .i64 0, .slice none 0 0])).toList [] := zo_val rfl (zo_val rfl (zo_sl (zo_sl (zo_val rfl (zo_sl (zo_val rfl (zo_val rfl (zo_val rfl (zo_sl (zo_nil))))))))))
end Go.Proofs.YteflgldonmgejaaGreatDoor
