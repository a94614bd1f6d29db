/- Facts about the types of the program. No condition. -/
import Derived.Test.YtcfbekjiiokcbaaProg
import Derived.Test.YtcfbekjiiokcbaaCDa
import Derived.KernelRfl
set_option linter.unusedVariables false
namespace Go.Proofs.Ytcfbekjiiokcbaa
open Go Go.RowKit M
set_option maxRecDepth 10000
theorem hm_ : Try.prog.follows .mixedOrders = true := by kernel_rfl
theorem c_101 : callI Try.prog 101 = true := by kernel_rfl
theorem c_103 : callI Try.prog 103 = true := by kernel_rfl
theorem c_104 : callI Try.prog 104 = true := by kernel_rfl
theorem c_108 : callI Try.prog 108 = true := by kernel_rfl
theorem c_109 : callI Try.prog 109 = true := by kernel_rfl
theorem c_110 : callI Try.prog 110 = true := by kernel_rfl
theorem c_111 : callI Try.prog 111 = true := by kernel_rfl
theorem c_112 : callI Try.prog 112 = true := by kernel_rfl
theorem c_113 : callI Try.prog 113 = true := by kernel_rfl
theorem c_114 : callI Try.prog 114 = true := by kernel_rfl
theorem c_115 : callI Try.prog 115 = true := by kernel_rfl
theorem c_116 : callI Try.prog 116 = true := by kernel_rfl
theorem c_117 : callI Try.prog 117 = true := by kernel_rfl
theorem c_118 : callI Try.prog 118 = true := by kernel_rfl
theorem c_119 : callI Try.prog 119 = true := by kernel_rfl
theorem c_12 : callI Try.prog 12 = true := by kernel_rfl
theorem c_120 : callI Try.prog 120 = true := by kernel_rfl
theorem c_126 : callI Try.prog 126 = true := by kernel_rfl
theorem c_127 : callI Try.prog 127 = true := by kernel_rfl
theorem c_130 : callI Try.prog 130 = true := by kernel_rfl
theorem c_131 : callI Try.prog 131 = true := by kernel_rfl
theorem c_132 : callI Try.prog 132 = true := by kernel_rfl
theorem c_135 : callI Try.prog 135 = true := by kernel_rfl
theorem c_136 : callI Try.prog 136 = true := by kernel_rfl
theorem c_139 : callI Try.prog 139 = true := by kernel_rfl
theorem c_14 : callI Try.prog 14 = true := by kernel_rfl
theorem c_140 : callI Try.prog 140 = true := by kernel_rfl
theorem c_141 : callI Try.prog 141 = true := by kernel_rfl
theorem c_142 : callI Try.prog 142 = true := by kernel_rfl
theorem c_143 : callI Try.prog 143 = true := by kernel_rfl
theorem c_144 : callI Try.prog 144 = true := by kernel_rfl
theorem c_145 : callI Try.prog 145 = true := by kernel_rfl
theorem c_146 : callI Try.prog 146 = true := by kernel_rfl
theorem c_147 : callI Try.prog 147 = true := by kernel_rfl
theorem c_148 : callI Try.prog 148 = true := by kernel_rfl
theorem c_149 : callI Try.prog 149 = true := by kernel_rfl
theorem c_15 : callI Try.prog 15 = true := by kernel_rfl
theorem c_150 : callI Try.prog 150 = true := by kernel_rfl
theorem c_163 : callI Try.prog 163 = true := by kernel_rfl
theorem c_164 : callI Try.prog 164 = true := by kernel_rfl
theorem c_165 : callI Try.prog 165 = true := by kernel_rfl
theorem c_166 : callI Try.prog 166 = true := by kernel_rfl
theorem c_167 : callI Try.prog 167 = true := by kernel_rfl
theorem c_168 : callI Try.prog 168 = true := by kernel_rfl
theorem c_169 : callI Try.prog 169 = true := by kernel_rfl
theorem c_172 : callI Try.prog 172 = true := by kernel_rfl
theorem c_180 : callI Try.prog 180 = true := by kernel_rfl
theorem c_181 : callI Try.prog 181 = true := by kernel_rfl
theorem c_182 : callI Try.prog 182 = true := by kernel_rfl
theorem c_183 : callI Try.prog 183 = true := by kernel_rfl
theorem c_184 : callI Try.prog 184 = true := by kernel_rfl
theorem c_185 : callI Try.prog 185 = true := by kernel_rfl
theorem c_186 : callI Try.prog 186 = true := by kernel_rfl
theorem c_187 : callI Try.prog 187 = true := by kernel_rfl
theorem c_188 : callI Try.prog 188 = true := by kernel_rfl
theorem c_189 : callI Try.prog 189 = true := by kernel_rfl
theorem c_19 : callI Try.prog 19 = true := by kernel_rfl
theorem c_190 : callI Try.prog 190 = true := by kernel_rfl
theorem c_197 : callI Try.prog 197 = true := by kernel_rfl
theorem c_20 : callI Try.prog 20 = true := by kernel_rfl
theorem c_21 : callI Try.prog 21 = true := by kernel_rfl
theorem c_22 : callI Try.prog 22 = true := by kernel_rfl
theorem c_27 : callI Try.prog 27 = true := by kernel_rfl
theorem c_28 : callI Try.prog 28 = true := by kernel_rfl
theorem c_29 : callI Try.prog 29 = true := by kernel_rfl
theorem c_30 : callI Try.prog 30 = true := by kernel_rfl
theorem c_31 : callI Try.prog 31 = true := by kernel_rfl
theorem c_39 : callI Try.prog 39 = true := by kernel_rfl
theorem c_40 : callI Try.prog 40 = true := by kernel_rfl
theorem c_41 : callI Try.prog 41 = true := by kernel_rfl
theorem c_42 : callI Try.prog 42 = true := by kernel_rfl
theorem c_43 : callI Try.prog 43 = true := by kernel_rfl
theorem c_46 : callI Try.prog 46 = true := by kernel_rfl
theorem c_54 : callI Try.prog 54 = true := by kernel_rfl
theorem c_63 : callI Try.prog 63 = true := by kernel_rfl
theorem c_64 : callI Try.prog 64 = true := by kernel_rfl
theorem c_66 : callI Try.prog 66 = true := by kernel_rfl
theorem c_67 : callI Try.prog 67 = true := by kernel_rfl
theorem c_69 : callI Try.prog 69 = true := by kernel_rfl
theorem c_70 : callI Try.prog 70 = true := by kernel_rfl
theorem c_71 : callI Try.prog 71 = true := by kernel_rfl
theorem c_72 : callI Try.prog 72 = true := by kernel_rfl
theorem c_75 : callI Try.prog 75 = true := by kernel_rfl
theorem c_76 : callI Try.prog 76 = true := by kernel_rfl
theorem c_77 : callI Try.prog 77 = true := by kernel_rfl
theorem c_80 : callI Try.prog 80 = true := by kernel_rfl
theorem c_83 : callI Try.prog 83 = true := by kernel_rfl
theorem c_84 : callI Try.prog 84 = true := by kernel_rfl
theorem c_85 : callI Try.prog 85 = true := by kernel_rfl
theorem c_86 : callI Try.prog 86 = true := by kernel_rfl
theorem c_87 : callI Try.prog 87 = true := by kernel_rfl
theorem c_88 : callI Try.prog 88 = true := by kernel_rfl
theorem c_89 : callI Try.prog 89 = true := by kernel_rfl
theorem c_90 : callI Try.prog 90 = true := by kernel_rfl
theorem c_91 : callI Try.prog 91 = true := by kernel_rfl
theorem c_92 : callI Try.prog 92 = true := by kernel_rfl
theorem c_93 : callI Try.prog 93 = true := by kernel_rfl
theorem c_94 : callI Try.prog 94 = true := by kernel_rfl
theorem c_95 : callI Try.prog 95 = true := by kernel_rfl
theorem c_96 : callI Try.prog 96 = true := by kernel_rfl
theorem c_97 : callI Try.prog 97 = true := by kernel_rfl
theorem fd_135_0 : fieldI Try.prog 135 0 = some 0 := by kernel_rfl
theorem fd_135_1 : fieldI Try.prog 135 1 = some 2 := by kernel_rfl
theorem fd_150_0 : fieldI Try.prog 150 0 = some 0 := by kernel_rfl
theorem fd_150_1 : fieldI Try.prog 150 1 = some 1 := by kernel_rfl
theorem fd_181_0 : fieldI Try.prog 181 0 = some 0 := by kernel_rfl
theorem fd_181_1 : fieldI Try.prog 181 1 = some 1 := by kernel_rfl
theorem fd_181_2 : fieldI Try.prog 181 2 = some 2 := by kernel_rfl
theorem fd_192_0 : fieldI Try.prog 192 0 = some 0 := by kernel_rfl
theorem fd_192_1 : fieldI Try.prog 192 1 = some 1 := by kernel_rfl
theorem fd_192_2 : fieldI Try.prog 192 2 = some 2 := by kernel_rfl
theorem fd_27_0 : fieldI Try.prog 27 0 = some 0 := by kernel_rfl
theorem fd_27_1 : fieldI Try.prog 27 1 = some 1 := by kernel_rfl
theorem fd_27_2 : fieldI Try.prog 27 2 = some 2 := by kernel_rfl
theorem fd_29_0 : fieldI Try.prog 29 0 = some 0 := by kernel_rfl
theorem fd_29_1 : fieldI Try.prog 29 1 = some 1 := by kernel_rfl
theorem fd_45_0 : fieldI Try.prog 45 0 = some 0 := by kernel_rfl
theorem fd_45_1 : fieldI Try.prog 45 1 = some 1 := by kernel_rfl
theorem fd_45_2 : fieldI Try.prog 45 2 = some 2 := by kernel_rfl
theorem fd_45_3 : fieldI Try.prog 45 3 = some 3 := by kernel_rfl
theorem fd_47_0 : fieldI Try.prog 47 0 = some 0 := by kernel_rfl
theorem fd_47_1 : fieldI Try.prog 47 1 = some 1 := by kernel_rfl
theorem fd_49_0 : fieldI Try.prog 49 0 = some 0 := by kernel_rfl
theorem fd_49_1 : fieldI Try.prog 49 1 = some 1 := by kernel_rfl
theorem fd_49_2 : fieldI Try.prog 49 2 = some 3 := by kernel_rfl
theorem fd_49_3 : fieldI Try.prog 49 3 = some 4 := by kernel_rfl
theorem fd_51_0 : fieldI Try.prog 51 0 = some 0 := by kernel_rfl
theorem fd_51_1 : fieldI Try.prog 51 1 = some 1 := by kernel_rfl
theorem fd_51_2 : fieldI Try.prog 51 2 = some 5 := by kernel_rfl
theorem fd_51_3 : fieldI Try.prog 51 3 = some 6 := by kernel_rfl
theorem fd_51_4 : fieldI Try.prog 51 4 = some 7 := by kernel_rfl
theorem fd_51_5 : fieldI Try.prog 51 5 = some 12 := by kernel_rfl
theorem fd_56_0 : fieldI Try.prog 56 0 = some 0 := by kernel_rfl
theorem fd_56_1 : fieldI Try.prog 56 1 = some 1 := by kernel_rfl
theorem fd_56_2 : fieldI Try.prog 56 2 = some 2 := by kernel_rfl
theorem fd_56_3 : fieldI Try.prog 56 3 = some 3 := by kernel_rfl
theorem fd_57_0 : fieldI Try.prog 57 0 = some 0 := by kernel_rfl
theorem fd_57_1 : fieldI Try.prog 57 1 = some 1 := by kernel_rfl
theorem fd_59_0 : fieldI Try.prog 59 0 = some 0 := by kernel_rfl
theorem fd_59_1 : fieldI Try.prog 59 1 = some 1 := by kernel_rfl
theorem fd_59_2 : fieldI Try.prog 59 2 = some 3 := by kernel_rfl
theorem fd_59_3 : fieldI Try.prog 59 3 = some 4 := by kernel_rfl
theorem fd_61_0 : fieldI Try.prog 61 0 = some 0 := by kernel_rfl
theorem fd_61_1 : fieldI Try.prog 61 1 = some 1 := by kernel_rfl
theorem fd_61_2 : fieldI Try.prog 61 2 = some 5 := by kernel_rfl
theorem fd_61_3 : fieldI Try.prog 61 3 = some 6 := by kernel_rfl
theorem fd_61_4 : fieldI Try.prog 61 4 = some 7 := by kernel_rfl
theorem fd_61_5 : fieldI Try.prog 61 5 = some 12 := by kernel_rfl
theorem fd_76_0 : fieldI Try.prog 76 0 = some 0 := by kernel_rfl
theorem fd_76_1 : fieldI Try.prog 76 1 = some 4 := by kernel_rfl
theorem fd_76_2 : fieldI Try.prog 76 2 = some 5 := by kernel_rfl
theorem fd_76_3 : fieldI Try.prog 76 3 = some 6 := by kernel_rfl
theorem fd_76_4 : fieldI Try.prog 76 4 = some 7 := by kernel_rfl
theorem fd_76_5 : fieldI Try.prog 76 5 = some 8 := by kernel_rfl
theorem fd_76_6 : fieldI Try.prog 76 6 = some 9 := by kernel_rfl
theorem fd_76_7 : fieldI Try.prog 76 7 = some 10 := by kernel_rfl
theorem fd_81_0 : fieldI Try.prog 81 0 = some 0 := by kernel_rfl
theorem fd_81_1 : fieldI Try.prog 81 1 = some 4 := by kernel_rfl
theorem fd_81_2 : fieldI Try.prog 81 2 = some 5 := by kernel_rfl
theorem fd_81_3 : fieldI Try.prog 81 3 = some 6 := by kernel_rfl
theorem fd_81_4 : fieldI Try.prog 81 4 = some 7 := by kernel_rfl
theorem fd_81_5 : fieldI Try.prog 81 5 = some 8 := by kernel_rfl
theorem fd_81_6 : fieldI Try.prog 81 6 = some 9 := by kernel_rfl
theorem fd_81_7 : fieldI Try.prog 81 7 = some 10 := by kernel_rfl
theorem fd_95_0 : fieldI Try.prog 95 0 = some 0 := by kernel_rfl
theorem fd_95_1 : fieldI Try.prog 95 1 = some 2 := by kernel_rfl
theorem pl_56 : placesI Try.prog 56 = some [(0, 1), (1, 1), (2, 1), (3, 1)] := by kernel_rfl
theorem pl_57 : placesI Try.prog 57 = some [(0, 1), (1, 1)] := by kernel_rfl
theorem pl_59 : placesI Try.prog 59 = some [(0, 1), (1, 2), (3, 1), (4, 1)] := by kernel_rfl
theorem se_neq_181 (x y : Nat) (a0 a1 a2 b0 b1 b2 : Int) (w : World) : Sem.run Try.prog (do eqGuard .neq 181 (.tmp x) (.tmp y) (.agg #[vI a0, vI a1, vI a2]) (.agg #[vI b0, vI b1, vI b2]); binOp .neq 181 (.agg #[vI a0, vI a1, vI a2]) (.agg #[vI b0, vI b1, vI b2]) : Sem Value) w = .ok (.bool (!(a0 == b0 && a1 == b1 && a2 == b2))) w := by
  have hS : Try.prog.underlying 181 = some (.struct (Try.prog.fieldsOf 181)) := by kernel_rfl
  have hp : Try.prog.stoodInHeld 181 = false := by kernel_rfl
  have hm : Try.prog.eqGuardType Try.prog.depth 181 = false := by kernel_rfl
  have hU := Try.underlying181
  have u3 := Try.underlying3
  have a3_ := Try.isAgg3
  have z3 := Try.sizeOf3
  rw [Sem.run_bind, run_eqGuard_agg w _ _ _ _ _ _ hm, Result.andThen_ok, run_neq_struct]
  rw [show (10000 : Nat) = 9999 + 1 from rfl, run_equalIn_agg w 9999 181 _ _ hS hp]
  simp only [Program.fieldsOf, hU]
  go_simp
  by_cases h0 : a0 = b0 <;> by_cases h1 : a1 = b1 <;> by_cases h2 : a2 = b2 <;> simp_all
theorem sl_100 : sliceI Try.prog 100 = some (150, 2, 32) := by kernel_rfl
theorem sl_22 : sliceI Try.prog 22 = some (47, 2, 32) := by kernel_rfl
theorem sl_23 : sliceI Try.prog 23 = some (3, 1, 8) := by kernel_rfl
theorem sl_25 : sliceI Try.prog 25 = some (57, 2, 32) := by kernel_rfl
theorem sl_43 : sliceI Try.prog 43 = some (192, 3, 24) := by kernel_rfl
theorem sl_54 : sliceI Try.prog 54 = some (181, 3, 24) := by kernel_rfl
theorem sl_65 : sliceI Try.prog 65 = some (135, 3, 56) := by kernel_rfl
theorem sl_67 : sliceI Try.prog 67 = some (95, 3, 56) := by kernel_rfl
theorem sl_73 : sliceI Try.prog 73 = some (22, 1, 24) := by kernel_rfl
theorem sl_74 : sliceI Try.prog 74 = some (4, 1, 1) := by kernel_rfl
theorem sl_79 : sliceI Try.prog 79 = some (25, 1, 24) := by kernel_rfl
theorem ty_135 : tyI Try.prog 135 = some (true, 3) := by kernel_rfl
theorem ty_150 : tyI Try.prog 150 = some (true, 2) := by kernel_rfl
theorem ty_181 : tyI Try.prog 181 = some (true, 3) := by kernel_rfl
theorem ty_192 : tyI Try.prog 192 = some (true, 3) := by kernel_rfl
theorem ty_22 : tyI Try.prog 22 = some (false, 1) := by kernel_rfl
theorem ty_23 : tyI Try.prog 23 = some (false, 1) := by kernel_rfl
theorem ty_25 : tyI Try.prog 25 = some (false, 1) := by kernel_rfl
theorem ty_3 : tyI Try.prog 3 = some (false, 1) := by kernel_rfl
theorem ty_4 : tyI Try.prog 4 = some (false, 1) := by kernel_rfl
theorem ty_43 : tyI Try.prog 43 = some (false, 1) := by kernel_rfl
theorem ty_45 : tyI Try.prog 45 = some (true, 4) := by kernel_rfl
theorem ty_47 : tyI Try.prog 47 = some (true, 2) := by kernel_rfl
theorem ty_49 : tyI Try.prog 49 = some (true, 5) := by kernel_rfl
theorem ty_51 : tyI Try.prog 51 = some (true, 13) := by kernel_rfl
theorem ty_54 : tyI Try.prog 54 = some (false, 1) := by kernel_rfl
theorem ty_56 : tyI Try.prog 56 = some (true, 4) := by kernel_rfl
theorem ty_57 : tyI Try.prog 57 = some (true, 2) := by kernel_rfl
theorem ty_59 : tyI Try.prog 59 = some (true, 5) := by kernel_rfl
theorem ty_61 : tyI Try.prog 61 = some (true, 13) := by kernel_rfl
theorem ty_73 : tyI Try.prog 73 = some (false, 1) := by kernel_rfl
theorem ty_74 : tyI Try.prog 74 = some (false, 1) := by kernel_rfl
theorem ty_76 : tyI Try.prog 76 = some (true, 11) := by kernel_rfl
theorem ty_79 : tyI Try.prog 79 = some (false, 1) := by kernel_rfl
theorem ty_81 : tyI Try.prog 81 = some (true, 11) := by kernel_rfl
theorem ty_95 : tyI Try.prog 95 = some (true, 3) := by kernel_rfl
theorem ub_4 : Try.prog.underlying 4 = some .bool := by kernel_rfl
theorem z_181 : zeroI Try.prog 181 = some (.agg #[.int .i64 0, .int .i64 0, .int .i64 0]) := by kernel_rfl
theorem z_25 : zeroI Try.prog 25 = some (.slice none 0 0) := by kernel_rfl
theorem z_3 : zeroI Try.prog 3 = some (.int .i64 0) := by kernel_rfl
theorem z_4 : zeroI Try.prog 4 = some (.bool false) := by kernel_rfl
theorem z_56 : zeroI Try.prog 56 = some (.agg #[.int .i64 0, .int .i64 0, .slice none 0 0, .slice none 0 0]) := by kernel_rfl
theorem z_57 : zeroI Try.prog 57 = some (.agg #[.int .i64 0, .slice none 0 0]) := by kernel_rfl
theorem z_59 : zeroI Try.prog 59 = some (.agg #[.int .i64 0, .int .i64 0, .slice none 0 0, .int .i64 0, .int .i64 0]) := by kernel_rfl
theorem z_61 : zeroI Try.prog 61 = some (.agg #[.int .i64 0, .int .i64 0, .int .i64 0, .slice none 0 0, .slice none 0 0, .int .i64 0, .int .i64 0, .int .i64 0, .int .i64 0, .slice none 0 0, .int .i64 0, .int .i64 0, .int .i64 0]) := by kernel_rfl
theorem z_81 : zeroI Try.prog 81 = some (.agg #[.int .i64 0, .int .i64 0, .slice none 0 0, .slice none 0 0, .slice none 0 0, .slice none 0 0, .slice none 0 0, .slice none 0 0, .slice none 0 0, .slice none 0 0, .slice none 0 0]) := by kernel_rfl
theorem z_95 : zeroI Try.prog 95 = some (.agg #[.int .i64 0, .slice none 0 0, .slice none 0 0]) := by kernel_rfl
theorem zo_181 {Fz : FzT} {w : World} : OwnL [PV.val (.int .i64 0), PV.val (.int .i64 0), PV.val (.int .i64 0)] Fz w (Value.cells (.agg #[.int .i64 0, .int .i64 0, .int .i64 0])).toList [] := zo_val rfl (zo_val rfl (zo_val rfl (zo_nil)))
theorem zo_25 {Fz : FzT} {w : World} : OwnL [PV.sl (.own 57 2) []] Fz w (Value.cells (.slice none 0 0)).toList [] := zo_sl (zo_nil)
theorem zo_3 {Fz : FzT} {w : World} : OwnL [PV.val (.int .i64 0)] Fz w (Value.cells (.int .i64 0)).toList [] := zo_val rfl (zo_nil)
theorem zo_4 {Fz : FzT} {w : World} : OwnL [PV.val (.bool false)] Fz w (Value.cells (.bool false)).toList [] := zo_val rfl (zo_nil)
theorem zo_56 {Fz : FzT} {w : World} : OwnL [PV.val (.int .i64 0), PV.val (.int .i64 0), PV.sl (.own 181 3) [], PV.sl (.own 3 1) []] Fz w (Value.cells (.agg #[.int .i64 0, .int .i64 0, .slice none 0 0, .slice none 0 0])).toList [] := zo_val rfl (zo_val rfl (zo_sl (zo_sl (zo_nil))))
theorem zo_57 {Fz : FzT} {w : World} : OwnL [PV.val (.int .i64 0), PV.sl (.own 3 1) []] Fz w (Value.cells (.agg #[.int .i64 0, .slice none 0 0])).toList [] := zo_val rfl (zo_sl (zo_nil))
theorem zo_59 {Fz : FzT} {w : World} : OwnL [PV.val (.int .i64 0), PV.val (.int .i64 0), PV.sl (.own 3 1) [], PV.val (.int .i64 0), PV.val (.int .i64 0)] Fz w (Value.cells (.agg #[.int .i64 0, .int .i64 0, .slice none 0 0, .int .i64 0, .int .i64 0])).toList [] := zo_val rfl (zo_val rfl (zo_sl (zo_val rfl (zo_val rfl (zo_nil)))))
theorem zo_61 {Fz : FzT} {w : World} : OwnL [PV.val (.int .i64 0), PV.val (.int .i64 0), PV.val (.int .i64 0), PV.sl (.own 181 3) [], PV.sl (.own 3 1) [], PV.val (.int .i64 0), PV.val (.int .i64 0), PV.val (.int .i64 0), PV.val (.int .i64 0), PV.sl (.own 3 1) [], PV.val (.int .i64 0), PV.val (.int .i64 0), PV.val (.int .i64 0)] Fz w (Value.cells (.agg #[.int .i64 0, .int .i64 0, .int .i64 0, .slice none 0 0, .slice none 0 0, .int .i64 0, .int .i64 0, .int .i64 0, .int .i64 0, .slice none 0 0, .int .i64 0, .int .i64 0, .int .i64 0])).toList [] := zo_val rfl (zo_val rfl (zo_val rfl (zo_sl (zo_sl (zo_val rfl (zo_val rfl (zo_val rfl (zo_val rfl (zo_sl (zo_val rfl (zo_val rfl (zo_val rfl (zo_nil)))))))))))))
theorem zo_81 {Fz : FzT} {w : World} : OwnL [PV.val (.int .i64 0), PV.val (.int .i64 0), PV.sl (.own 181 3) [], PV.sl (.own 3 1) [], PV.sl (.own 25 1) [], PV.sl (.own 4 1) [], PV.sl (.own 3 1) [], PV.sl (.own 3 1) [], PV.sl (.own 25 1) [], PV.sl (.own 3 1) [], PV.sl (.own 25 1) []] Fz w (Value.cells (.agg #[.int .i64 0, .int .i64 0, .slice none 0 0, .slice none 0 0, .slice none 0 0, .slice none 0 0, .slice none 0 0, .slice none 0 0, .slice none 0 0, .slice none 0 0, .slice none 0 0])).toList [] := zo_val rfl (zo_val rfl (zo_sl (zo_sl (zo_sl (zo_sl (zo_sl (zo_sl (zo_sl (zo_sl (zo_sl (zo_nil)))))))))))
theorem zo_95 {Fz : FzT} {w : World} : OwnL [PV.val (.int .i64 0), PV.sl (.own 3 1) [], PV.sl (.own 3 1) []] Fz w (Value.cells (.agg #[.int .i64 0, .slice none 0 0, .slice none 0 0])).toList [] := zo_val rfl (zo_sl (zo_sl (zo_nil)))
theorem open_Int : OpenT Try.prog 3 cInt gdInt := open_i Try.underlying3
theorem open_Cond : OpenT Try.prog 192 cCond gdCond := by
  intro H enc w sp held n cs x hx
  obtain ⟨hl, hf⟩ := open_fields (l := [(3, 0, 1), (3, 1, 1), (3, 2, 1)]) (by kernel_rfl) hx
  have hl : cs.length = 3 := hl.trans (by kernel_rfl)
  obtain ⟨n0, y0, z0⟩ := hf 0 _ rfl
  obtain ⟨a0, h0, g0⟩ := open_Int enc w _ _ _ _ _ z0
  obtain ⟨n1, y1, z1⟩ := hf 1 _ rfl
  obtain ⟨a1, h1, g1⟩ := open_Int enc w _ _ _ _ _ z1
  obtain ⟨n2, y2, z2⟩ := hf 2 _ rfl
  obtain ⟨a2, h2, g2⟩ := open_Int enc w _ _ _ _ _ z2
  exact ⟨⟨a0, a1, a2⟩, (rel_cat (o := 0) h0 (rel_cat (o := 1) h1 (rel_cat (o := 2) h2 (rel_end hl)))), ⟨g0, g1, g2⟩⟩
theorem open_CondS : OpenT Try.prog 43 (cCondS .v) gdCondS := open_sl (e := 3) (by kernel_rfl) (by kernel_rfl) (by decide) open_Cond (fun _ => rfl)
theorem open_IntS : OpenT Try.prog 23 (cIntS .v) gdIntS := open_sl (e := 1) (by kernel_rfl) (by kernel_rfl) (by decide) open_Int (fun _ => rfl)
theorem open_Query : OpenT Try.prog 45 (cQuery .v .v) gdQuery := by
  intro H enc w sp held n cs x hx
  obtain ⟨hl, hf⟩ := open_fields (l := [(3, 0, 1), (3, 1, 1), (43, 2, 1), (23, 3, 1)]) (by kernel_rfl) hx
  have hl : cs.length = 4 := hl.trans (by kernel_rfl)
  obtain ⟨n0, y0, z0⟩ := hf 0 _ rfl
  obtain ⟨a0, h0, g0⟩ := open_Int enc w _ _ _ _ _ z0
  obtain ⟨n1, y1, z1⟩ := hf 1 _ rfl
  obtain ⟨a1, h1, g1⟩ := open_Int enc w _ _ _ _ _ z1
  obtain ⟨n2, y2, z2⟩ := hf 2 _ rfl
  obtain ⟨a2, h2, g2⟩ := open_CondS enc w _ _ _ _ _ z2
  obtain ⟨n3, y3, z3⟩ := hf 3 _ rfl
  obtain ⟨a3, h3, g3⟩ := open_IntS enc w _ _ _ _ _ z3
  exact ⟨⟨a0, a1, a2, a3⟩, (rel_cat (o := 0) h0 (rel_cat (o := 1) h1 (rel_cat (o := 2) h2 (rel_cat (o := 3) h3 (rel_end hl))))), ⟨g0, g1, g2, g3⟩⟩
theorem open_Row : OpenT Try.prog 47 (cRow .v) gdRow := by
  intro H enc w sp held n cs x hx
  obtain ⟨hl, hf⟩ := open_fields (l := [(3, 0, 1), (23, 1, 1)]) (by kernel_rfl) hx
  have hl : cs.length = 2 := hl.trans (by kernel_rfl)
  obtain ⟨n0, y0, z0⟩ := hf 0 _ rfl
  obtain ⟨a0, h0, g0⟩ := open_Int enc w _ _ _ _ _ z0
  obtain ⟨n1, y1, z1⟩ := hf 1 _ rfl
  obtain ⟨a1, h1, g1⟩ := open_IntS enc w _ _ _ _ _ z1
  exact ⟨⟨a0, a1⟩, (rel_cat (o := 0) h0 (rel_cat (o := 1) h1 (rel_end hl))), ⟨g0, g1⟩⟩
theorem open_RowS : OpenT Try.prog 22 (cRowS .v .v) gdRowS := open_sl (e := 2) (by kernel_rfl) (by kernel_rfl) (by decide) open_Row (fun _ => rfl)
theorem open_RowSS : OpenT Try.prog 73 (cRowSS .v .v .v) gdRowSS := open_sl (e := 1) (by kernel_rfl) (by kernel_rfl) (by decide) open_RowS (fun _ => rfl)
theorem open_Bool : OpenT Try.prog 4 cBool gdBool := open_b Try.underlying4
theorem open_BoolS : OpenT Try.prog 74 (cBoolS .v) gdBoolS := open_sl (e := 1) (by kernel_rfl) (by kernel_rfl) (by decide) open_Bool (fun _ => rfl)
theorem open_Cluster : OpenT Try.prog 76 (cCluster .v .v .v .v .v .v .v .v .v .v .v .v .v .v .v) gdCluster := by
  intro H enc w sp held n cs x hx
  obtain ⟨hl, hf⟩ := open_fields (l := [(45, 0, 4), (73, 4, 1), (74, 5, 1), (23, 6, 1), (23, 7, 1), (73, 8, 1), (23, 9, 1), (73, 10, 1)]) (by kernel_rfl) hx
  have hl : cs.length = 11 := hl.trans (by kernel_rfl)
  obtain ⟨n0, y0, z0⟩ := hf 0 _ rfl
  obtain ⟨a0, h0, g0⟩ := open_Query enc w _ _ _ _ _ z0
  obtain ⟨n1, y1, z1⟩ := hf 1 _ rfl
  obtain ⟨a1, h1, g1⟩ := open_RowSS enc w _ _ _ _ _ z1
  obtain ⟨n2, y2, z2⟩ := hf 2 _ rfl
  obtain ⟨a2, h2, g2⟩ := open_BoolS enc w _ _ _ _ _ z2
  obtain ⟨n3, y3, z3⟩ := hf 3 _ rfl
  obtain ⟨a3, h3, g3⟩ := open_IntS enc w _ _ _ _ _ z3
  obtain ⟨n4, y4, z4⟩ := hf 4 _ rfl
  obtain ⟨a4, h4, g4⟩ := open_IntS enc w _ _ _ _ _ z4
  obtain ⟨n5, y5, z5⟩ := hf 5 _ rfl
  obtain ⟨a5, h5, g5⟩ := open_RowSS enc w _ _ _ _ _ z5
  obtain ⟨n6, y6, z6⟩ := hf 6 _ rfl
  obtain ⟨a6, h6, g6⟩ := open_IntS enc w _ _ _ _ _ z6
  obtain ⟨n7, y7, z7⟩ := hf 7 _ rfl
  obtain ⟨a7, h7, g7⟩ := open_RowSS enc w _ _ _ _ _ z7
  exact ⟨⟨a0, a1, a2, a3, a4, a5, a6, a7⟩, (rel_cat (o := 0) h0 (rel_cat (o := 4) h1 (rel_cat (o := 5) h2 (rel_cat (o := 6) h3 (rel_cat (o := 7) h4 (rel_cat (o := 8) h5 (rel_cat (o := 9) h6 (rel_cat (o := 10) h7 (rel_end hl))))))))), ⟨g0, g1, g2, g3, g4, g5, g6, g7⟩⟩
theorem open_Update : OpenT Try.prog 49 (cUpdate .v) gdUpdate := by
  intro H enc w sp held n cs x hx
  obtain ⟨hl, hf⟩ := open_fields (l := [(3, 0, 1), (47, 1, 2), (3, 3, 1), (3, 4, 1)]) (by kernel_rfl) hx
  have hl : cs.length = 5 := hl.trans (by kernel_rfl)
  obtain ⟨n0, y0, z0⟩ := hf 0 _ rfl
  obtain ⟨a0, h0, g0⟩ := open_Int enc w _ _ _ _ _ z0
  obtain ⟨n1, y1, z1⟩ := hf 1 _ rfl
  obtain ⟨a1, h1, g1⟩ := open_Row enc w _ _ _ _ _ z1
  obtain ⟨n2, y2, z2⟩ := hf 2 _ rfl
  obtain ⟨a2, h2, g2⟩ := open_Int enc w _ _ _ _ _ z2
  obtain ⟨n3, y3, z3⟩ := hf 3 _ rfl
  obtain ⟨a3, h3, g3⟩ := open_Int enc w _ _ _ _ _ z3
  exact ⟨⟨a0, a1, a2, a3⟩, (rel_cat (o := 0) h0 (rel_cat (o := 1) h1 (rel_cat (o := 3) h2 (rel_cat (o := 4) h3 (rel_end hl))))), ⟨g0, g1, g2, g3⟩⟩
theorem open_Event : OpenT Try.prog 51 (cEvent .v .v .v) gdEvent := by
  intro H enc w sp held n cs x hx
  obtain ⟨hl, hf⟩ := open_fields (l := [(3, 0, 1), (45, 1, 4), (3, 5, 1), (3, 6, 1), (49, 7, 5), (3, 12, 1)]) (by kernel_rfl) hx
  have hl : cs.length = 13 := hl.trans (by kernel_rfl)
  obtain ⟨n0, y0, z0⟩ := hf 0 _ rfl
  obtain ⟨a0, h0, g0⟩ := open_Int enc w _ _ _ _ _ z0
  obtain ⟨n1, y1, z1⟩ := hf 1 _ rfl
  obtain ⟨a1, h1, g1⟩ := open_Query enc w _ _ _ _ _ z1
  obtain ⟨n2, y2, z2⟩ := hf 2 _ rfl
  obtain ⟨a2, h2, g2⟩ := open_Int enc w _ _ _ _ _ z2
  obtain ⟨n3, y3, z3⟩ := hf 3 _ rfl
  obtain ⟨a3, h3, g3⟩ := open_Int enc w _ _ _ _ _ z3
  obtain ⟨n4, y4, z4⟩ := hf 4 _ rfl
  obtain ⟨a4, h4, g4⟩ := open_Update enc w _ _ _ _ _ z4
  obtain ⟨n5, y5, z5⟩ := hf 5 _ rfl
  obtain ⟨a5, h5, g5⟩ := open_Int enc w _ _ _ _ _ z5
  exact ⟨⟨a0, a1, a2, a3, a4, a5⟩, (rel_cat (o := 0) h0 (rel_cat (o := 1) h1 (rel_cat (o := 5) h2 (rel_cat (o := 6) h3 (rel_cat (o := 7) h4 (rel_cat (o := 12) h5 (rel_end hl))))))), ⟨g0, g1, g2, g3, g4, g5⟩⟩
end Go.Proofs.Ytcfbekjiiokcbaa
