/- Facts about the types of the program. No condition. -/
import Derived.Test.YtaomckpfgmhapaaDoorProg
import Derived.Test.YtaomckpfgmhapaaDoorCDa
import Derived.KernelRfl
set_option linter.unusedVariables false
namespace Go.Proofs.YtaomckpfgmhapaaDoor
open Go Go.RowKit M
set_option maxRecDepth 10000
theorem hm_ : Tryd.prog.follows .mixedOrders = true := by kernel_rfl
theorem c_100 : callI Tryd.prog 100 = true := by kernel_rfl
theorem c_101 : callI Tryd.prog 101 = true := by kernel_rfl
theorem c_102 : callI Tryd.prog 102 = true := by kernel_rfl
theorem c_103 : callI Tryd.prog 103 = true := by kernel_rfl
theorem c_104 : callI Tryd.prog 104 = true := by kernel_rfl
theorem c_105 : callI Tryd.prog 105 = true := by kernel_rfl
theorem c_106 : callI Tryd.prog 106 = true := by kernel_rfl
theorem c_107 : callI Tryd.prog 107 = true := by kernel_rfl
theorem c_108 : callI Tryd.prog 108 = true := by kernel_rfl
theorem c_114 : callI Tryd.prog 114 = true := by kernel_rfl
theorem c_115 : callI Tryd.prog 115 = true := by kernel_rfl
theorem c_117 : callI Tryd.prog 117 = true := by kernel_rfl
theorem c_118 : callI Tryd.prog 118 = true := by kernel_rfl
theorem c_119 : callI Tryd.prog 119 = true := by kernel_rfl
theorem c_120 : callI Tryd.prog 120 = true := by kernel_rfl
theorem c_121 : callI Tryd.prog 121 = true := by kernel_rfl
theorem c_122 : callI Tryd.prog 122 = true := by kernel_rfl
theorem c_27 : callI Tryd.prog 27 = true := by kernel_rfl
theorem c_31 : callI Tryd.prog 31 = true := by kernel_rfl
theorem c_36 : callI Tryd.prog 36 = true := by kernel_rfl
theorem c_37 : callI Tryd.prog 37 = true := by kernel_rfl
theorem c_39 : callI Tryd.prog 39 = true := by kernel_rfl
theorem c_41 : callI Tryd.prog 41 = true := by kernel_rfl
theorem c_43 : callI Tryd.prog 43 = true := by kernel_rfl
theorem c_47 : callI Tryd.prog 47 = true := by kernel_rfl
theorem c_48 : callI Tryd.prog 48 = true := by kernel_rfl
theorem c_49 : callI Tryd.prog 49 = true := by kernel_rfl
theorem c_50 : callI Tryd.prog 50 = true := by kernel_rfl
theorem c_54 : callI Tryd.prog 54 = true := by kernel_rfl
theorem c_55 : callI Tryd.prog 55 = true := by kernel_rfl
theorem c_56 : callI Tryd.prog 56 = true := by kernel_rfl
theorem c_60 : callI Tryd.prog 60 = true := by kernel_rfl
theorem c_61 : callI Tryd.prog 61 = true := by kernel_rfl
theorem c_62 : callI Tryd.prog 62 = true := by kernel_rfl
theorem c_66 : callI Tryd.prog 66 = true := by kernel_rfl
theorem c_70 : callI Tryd.prog 70 = true := by kernel_rfl
theorem c_71 : callI Tryd.prog 71 = true := by kernel_rfl
theorem c_74 : callI Tryd.prog 74 = true := by kernel_rfl
theorem c_81 : callI Tryd.prog 81 = true := by kernel_rfl
theorem c_82 : callI Tryd.prog 82 = true := by kernel_rfl
theorem c_86 : callI Tryd.prog 86 = true := by kernel_rfl
theorem c_87 : callI Tryd.prog 87 = true := by kernel_rfl
theorem c_88 : callI Tryd.prog 88 = true := by kernel_rfl
theorem c_91 : callI Tryd.prog 91 = true := by kernel_rfl
theorem c_92 : callI Tryd.prog 92 = true := by kernel_rfl
theorem c_93 : callI Tryd.prog 93 = true := by kernel_rfl
theorem c_94 : callI Tryd.prog 94 = true := by kernel_rfl
theorem c_95 : callI Tryd.prog 95 = true := by kernel_rfl
theorem c_96 : callI Tryd.prog 96 = true := by kernel_rfl
theorem c_97 : callI Tryd.prog 97 = true := by kernel_rfl
theorem c_98 : callI Tryd.prog 98 = true := by kernel_rfl
theorem c_99 : callI Tryd.prog 99 = true := by kernel_rfl
theorem fd_139_0 : fieldI Tryd.prog 139 0 = some 0 := by kernel_rfl
theorem fd_139_1 : fieldI Tryd.prog 139 1 = some 1 := by kernel_rfl
theorem fd_139_2 : fieldI Tryd.prog 139 2 = some 2 := by kernel_rfl
theorem fd_150_0 : fieldI Tryd.prog 150 0 = some 0 := by kernel_rfl
theorem fd_150_1 : fieldI Tryd.prog 150 1 = some 1 := by kernel_rfl
theorem fd_150_2 : fieldI Tryd.prog 150 2 = some 2 := by kernel_rfl
theorem fd_150_3 : fieldI Tryd.prog 150 3 = some 3 := by kernel_rfl
theorem fd_153_0 : fieldI Tryd.prog 153 0 = some 0 := by kernel_rfl
theorem fd_153_1 : fieldI Tryd.prog 153 1 = some 1 := by kernel_rfl
theorem fd_153_2 : fieldI Tryd.prog 153 2 = some 2 := by kernel_rfl
theorem fd_31_0 : fieldI Tryd.prog 31 0 = some 0 := by kernel_rfl
theorem fd_31_1 : fieldI Tryd.prog 31 1 = some 1 := by kernel_rfl
theorem fd_36_0 : fieldI Tryd.prog 36 0 = some 0 := by kernel_rfl
theorem fd_36_1 : fieldI Tryd.prog 36 1 = some 1 := by kernel_rfl
theorem fd_43_0 : fieldI Tryd.prog 43 0 = some 0 := by kernel_rfl
theorem fd_43_1 : fieldI Tryd.prog 43 1 = some 1 := by kernel_rfl
theorem fd_43_2 : fieldI Tryd.prog 43 2 = some 2 := by kernel_rfl
theorem fd_43_3 : fieldI Tryd.prog 43 3 = some 3 := by kernel_rfl
theorem fd_46_0 : fieldI Tryd.prog 46 0 = some 0 := by kernel_rfl
theorem fd_46_1 : fieldI Tryd.prog 46 1 = some 4 := by kernel_rfl
theorem fd_46_2 : fieldI Tryd.prog 46 2 = some 5 := by kernel_rfl
theorem fd_46_3 : fieldI Tryd.prog 46 3 = some 6 := by kernel_rfl
theorem fd_51_0 : fieldI Tryd.prog 51 0 = some 0 := by kernel_rfl
theorem fd_51_1 : fieldI Tryd.prog 51 1 = some 1 := by kernel_rfl
theorem fd_51_2 : fieldI Tryd.prog 51 2 = some 2 := by kernel_rfl
theorem fd_51_3 : fieldI Tryd.prog 51 3 = some 3 := by kernel_rfl
theorem fd_54_0 : fieldI Tryd.prog 54 0 = some 0 := by kernel_rfl
theorem fd_54_1 : fieldI Tryd.prog 54 1 = some 4 := by kernel_rfl
theorem fd_54_2 : fieldI Tryd.prog 54 2 = some 5 := by kernel_rfl
theorem fd_54_3 : fieldI Tryd.prog 54 3 = some 6 := by kernel_rfl
theorem fd_59_0 : fieldI Tryd.prog 59 0 = some 0 := by kernel_rfl
theorem fd_59_1 : fieldI Tryd.prog 59 1 = some 1 := by kernel_rfl
theorem fd_61_0 : fieldI Tryd.prog 61 0 = some 0 := by kernel_rfl
theorem fd_61_1 : fieldI Tryd.prog 61 1 = some 1 := by kernel_rfl
theorem fd_61_2 : fieldI Tryd.prog 61 2 = some 3 := by kernel_rfl
theorem fd_61_3 : fieldI Tryd.prog 61 3 = some 4 := by kernel_rfl
theorem fd_63_0 : fieldI Tryd.prog 63 0 = some 0 := by kernel_rfl
theorem fd_63_1 : fieldI Tryd.prog 63 1 = some 1 := by kernel_rfl
theorem fd_63_2 : fieldI Tryd.prog 63 2 = some 5 := by kernel_rfl
theorem fd_63_3 : fieldI Tryd.prog 63 3 = some 6 := by kernel_rfl
theorem fd_63_4 : fieldI Tryd.prog 63 4 = some 7 := by kernel_rfl
theorem fd_63_5 : fieldI Tryd.prog 63 5 = some 12 := by kernel_rfl
theorem fd_66_0 : fieldI Tryd.prog 66 0 = some 0 := by kernel_rfl
theorem fd_66_1 : fieldI Tryd.prog 66 1 = some 1 := by kernel_rfl
theorem fd_68_0 : fieldI Tryd.prog 68 0 = some 0 := by kernel_rfl
theorem fd_68_1 : fieldI Tryd.prog 68 1 = some 1 := by kernel_rfl
theorem fd_68_2 : fieldI Tryd.prog 68 2 = some 3 := by kernel_rfl
theorem fd_68_3 : fieldI Tryd.prog 68 3 = some 4 := by kernel_rfl
theorem fd_70_0 : fieldI Tryd.prog 70 0 = some 0 := by kernel_rfl
theorem fd_70_1 : fieldI Tryd.prog 70 1 = some 1 := by kernel_rfl
theorem fd_70_2 : fieldI Tryd.prog 70 2 = some 5 := by kernel_rfl
theorem fd_70_3 : fieldI Tryd.prog 70 3 = some 6 := by kernel_rfl
theorem fd_70_4 : fieldI Tryd.prog 70 4 = some 7 := by kernel_rfl
theorem fd_70_5 : fieldI Tryd.prog 70 5 = some 12 := by kernel_rfl
theorem fd_76_0 : fieldI Tryd.prog 76 0 = some 0 := by kernel_rfl
theorem fd_76_1 : fieldI Tryd.prog 76 1 = some 1 := by kernel_rfl
theorem fd_76_2 : fieldI Tryd.prog 76 2 = some 2 := by kernel_rfl
theorem fd_76_3 : fieldI Tryd.prog 76 3 = some 3 := by kernel_rfl
theorem fd_76_4 : fieldI Tryd.prog 76 4 = some 4 := by kernel_rfl
theorem fd_80_0 : fieldI Tryd.prog 80 0 = some 0 := by kernel_rfl
theorem fd_80_1 : fieldI Tryd.prog 80 1 = some 1 := by kernel_rfl
theorem fd_80_2 : fieldI Tryd.prog 80 2 = some 2 := by kernel_rfl
theorem fd_80_3 : fieldI Tryd.prog 80 3 = some 3 := by kernel_rfl
theorem fd_80_4 : fieldI Tryd.prog 80 4 = some 4 := by kernel_rfl
theorem fd_90_0 : fieldI Tryd.prog 90 0 = some 0 := by kernel_rfl
theorem fd_90_1 : fieldI Tryd.prog 90 1 = some 1 := by kernel_rfl
theorem fd_90_2 : fieldI Tryd.prog 90 2 = some 2 := by kernel_rfl
theorem fd_90_3 : fieldI Tryd.prog 90 3 = some 3 := by kernel_rfl
theorem pl_51 : placesI Tryd.prog 51 = some [(0, 1), (1, 1), (2, 1), (3, 1)] := by kernel_rfl
theorem pl_68 : placesI Tryd.prog 68 = some [(0, 1), (1, 2), (3, 1), (4, 1)] := by kernel_rfl
theorem se_neq_139 (x y : Nat) (a0 a1 a2 b0 b1 b2 : Int) (w : World) : Sem.run Tryd.prog (do eqGuard .neq 139 (.tmp x) (.tmp y) (.agg #[vI a0, vI a1, vI a2]) (.agg #[vI b0, vI b1, vI b2]); binOp .neq 139 (.agg #[vI a0, vI a1, vI a2]) (.agg #[vI b0, vI b1, vI b2]) : Sem Value) w = .ok (.bool (!(a0 == b0 && a1 == b1 && a2 == b2))) w := by
  have hS : Tryd.prog.underlying 139 = some (.struct (Tryd.prog.fieldsOf 139)) := by kernel_rfl
  have hp : Tryd.prog.stoodInHeld 139 = false := by kernel_rfl
  have hm : Tryd.prog.eqGuardType Tryd.prog.depth 139 = false := by kernel_rfl
  have hU := Tryd.underlying139
  have u3 := Tryd.underlying3
  have a3_ := Tryd.isAgg3
  have z3 := Tryd.sizeOf3
  rw [Sem.run_bind, run_eqGuard_agg w _ _ _ _ _ _ hm, Result.andThen_ok, run_neq_struct]
  rw [show (10000 : Nat) = 9999 + 1 from rfl, run_equalIn_agg w 9999 139 _ _ hS hp]
  simp only [Program.fieldsOf, hU]
  go_simp
  by_cases h0 : a0 = b0 <;> by_cases h1 : a1 = b1 <;> by_cases h2 : a2 = b2 <;> simp_all
theorem sl_128 : sliceI Tryd.prog 128 = some (150, 4, 48) := by kernel_rfl
theorem sl_22 : sliceI Tryd.prog 22 = some (76, 5, 88) := by kernel_rfl
theorem sl_25 : sliceI Tryd.prog 25 = some (80, 5, 88) := by kernel_rfl
theorem sl_29 : sliceI Tryd.prog 29 = some (128, 1, 24) := by kernel_rfl
theorem sl_34 : sliceI Tryd.prog 34 = some (88, 1, 24) := by kernel_rfl
theorem sl_40 : sliceI Tryd.prog 40 = some (153, 3, 24) := by kernel_rfl
theorem sl_41 : sliceI Tryd.prog 41 = some (3, 1, 8) := by kernel_rfl
theorem sl_44 : sliceI Tryd.prog 44 = some (59, 2, 32) := by kernel_rfl
theorem sl_49 : sliceI Tryd.prog 49 = some (139, 3, 24) := by kernel_rfl
theorem sl_52 : sliceI Tryd.prog 52 = some (66, 2, 32) := by kernel_rfl
theorem sl_88 : sliceI Tryd.prog 88 = some (90, 4, 48) := by kernel_rfl
theorem ty_128 : tyI Tryd.prog 128 = some (false, 1) := by kernel_rfl
theorem ty_139 : tyI Tryd.prog 139 = some (true, 3) := by kernel_rfl
theorem ty_150 : tyI Tryd.prog 150 = some (true, 4) := by kernel_rfl
theorem ty_153 : tyI Tryd.prog 153 = some (true, 3) := by kernel_rfl
theorem ty_29 : tyI Tryd.prog 29 = some (false, 1) := by kernel_rfl
theorem ty_3 : tyI Tryd.prog 3 = some (false, 1) := by kernel_rfl
theorem ty_34 : tyI Tryd.prog 34 = some (false, 1) := by kernel_rfl
theorem ty_36 : tyI Tryd.prog 36 = some (true, 2) := by kernel_rfl
theorem ty_40 : tyI Tryd.prog 40 = some (false, 1) := by kernel_rfl
theorem ty_41 : tyI Tryd.prog 41 = some (false, 1) := by kernel_rfl
theorem ty_43 : tyI Tryd.prog 43 = some (true, 4) := by kernel_rfl
theorem ty_44 : tyI Tryd.prog 44 = some (false, 1) := by kernel_rfl
theorem ty_49 : tyI Tryd.prog 49 = some (false, 1) := by kernel_rfl
theorem ty_51 : tyI Tryd.prog 51 = some (true, 4) := by kernel_rfl
theorem ty_52 : tyI Tryd.prog 52 = some (false, 1) := by kernel_rfl
theorem ty_54 : tyI Tryd.prog 54 = some (true, 7) := by kernel_rfl
theorem ty_59 : tyI Tryd.prog 59 = some (true, 2) := by kernel_rfl
theorem ty_61 : tyI Tryd.prog 61 = some (true, 5) := by kernel_rfl
theorem ty_66 : tyI Tryd.prog 66 = some (true, 2) := by kernel_rfl
theorem ty_68 : tyI Tryd.prog 68 = some (true, 5) := by kernel_rfl
theorem ty_70 : tyI Tryd.prog 70 = some (true, 13) := by kernel_rfl
theorem ty_76 : tyI Tryd.prog 76 = some (true, 5) := by kernel_rfl
theorem ty_80 : tyI Tryd.prog 80 = some (true, 5) := by kernel_rfl
theorem ty_88 : tyI Tryd.prog 88 = some (false, 1) := by kernel_rfl
theorem ty_90 : tyI Tryd.prog 90 = some (true, 4) := by kernel_rfl
theorem z_139 : zeroI Tryd.prog 139 = some (.agg #[.int .i64 0, .int .i64 0, .int .i64 0]) := by kernel_rfl
theorem z_3 : zeroI Tryd.prog 3 = some (.int .i64 0) := by kernel_rfl
theorem z_36 : zeroI Tryd.prog 36 = some (.agg #[.slice none 0 0, .int .i64 0]) := by kernel_rfl
theorem z_51 : zeroI Tryd.prog 51 = some (.agg #[.int .i64 0, .int .i64 0, .slice none 0 0, .slice none 0 0]) := by kernel_rfl
theorem z_54 : zeroI Tryd.prog 54 = some (.agg #[.int .i64 0, .int .i64 0, .slice none 0 0, .slice none 0 0, .int .i64 0, .int .i64 0, .slice none 0 0]) := by kernel_rfl
theorem z_66 : zeroI Tryd.prog 66 = some (.agg #[.int .i64 0, .slice none 0 0]) := by kernel_rfl
theorem z_68 : zeroI Tryd.prog 68 = some (.agg #[.int .i64 0, .int .i64 0, .slice none 0 0, .int .i64 0, .int .i64 0]) := by kernel_rfl
theorem z_70 : zeroI Tryd.prog 70 = some (.agg #[.int .i64 0, .int .i64 0, .int .i64 0, .slice none 0 0, .slice none 0 0, .int .i64 0, .int .i64 0, .int .i64 0, .int .i64 0, .slice none 0 0, .int .i64 0, .int .i64 0, .int .i64 0]) := by kernel_rfl
theorem z_80 : zeroI Tryd.prog 80 = some (.agg #[.int .i64 0, .int .i64 0, .slice none 0 0, .slice none 0 0, .slice none 0 0]) := by kernel_rfl
theorem z_88 : zeroI Tryd.prog 88 = some (.slice none 0 0) := by kernel_rfl
theorem z_90 : zeroI Tryd.prog 90 = some (.agg #[.int .i64 0, .slice none 0 0, .int .i64 0, .int .i64 0]) := by kernel_rfl
theorem zo_139 {Fz : FzT} {w : World} : OwnL [PV.val (.int .i64 0), PV.val (.int .i64 0), PV.val (.int .i64 0)] Fz w (Value.cells (.agg #[.int .i64 0, .int .i64 0, .int .i64 0])).toList [] := zo_val rfl (zo_val rfl (zo_val rfl (zo_nil)))
theorem zo_3 {Fz : FzT} {w : World} : OwnL [PV.val (.int .i64 0)] Fz w (Value.cells (.int .i64 0)).toList [] := zo_val rfl (zo_nil)
theorem zo_36 {Fz : FzT} {w : World} : OwnL [PV.sl (.own 88 1) [], PV.val (.int .i64 0)] Fz w (Value.cells (.agg #[.slice none 0 0, .int .i64 0])).toList [] := zo_sl (zo_val rfl (zo_nil))
theorem zo_51 {Fz : FzT} {w : World} : OwnL [PV.val (.int .i64 0), PV.val (.int .i64 0), PV.sl (.own 139 3) [], PV.sl (.own 3 1) []] Fz w (Value.cells (.agg #[.int .i64 0, .int .i64 0, .slice none 0 0, .slice none 0 0])).toList [] := zo_val rfl (zo_val rfl (zo_sl (zo_sl (zo_nil))))
theorem zo_54 {Fz : FzT} {w : World} : OwnL [PV.val (.int .i64 0), PV.val (.int .i64 0), PV.sl (.own 139 3) [], PV.sl (.own 3 1) [], PV.val (.int .i64 0), PV.val (.int .i64 0), PV.sl (.own 66 2) []] Fz w (Value.cells (.agg #[.int .i64 0, .int .i64 0, .slice none 0 0, .slice none 0 0, .int .i64 0, .int .i64 0, .slice none 0 0])).toList [] := zo_val rfl (zo_val rfl (zo_sl (zo_sl (zo_val rfl (zo_val rfl (zo_sl (zo_nil)))))))
theorem zo_66 {Fz : FzT} {w : World} : OwnL [PV.val (.int .i64 0), PV.sl (.own 3 1) []] Fz w (Value.cells (.agg #[.int .i64 0, .slice none 0 0])).toList [] := zo_val rfl (zo_sl (zo_nil))
theorem zo_68 {Fz : FzT} {w : World} : OwnL [PV.val (.int .i64 0), PV.val (.int .i64 0), PV.sl (.own 3 1) [], PV.val (.int .i64 0), PV.val (.int .i64 0)] Fz w (Value.cells (.agg #[.int .i64 0, .int .i64 0, .slice none 0 0, .int .i64 0, .int .i64 0])).toList [] := zo_val rfl (zo_val rfl (zo_sl (zo_val rfl (zo_val rfl (zo_nil)))))
theorem zo_70 {Fz : FzT} {w : World} : OwnL [PV.val (.int .i64 0), PV.val (.int .i64 0), PV.val (.int .i64 0), PV.sl (.own 139 3) [], PV.sl (.own 3 1) [], PV.val (.int .i64 0), PV.val (.int .i64 0), PV.val (.int .i64 0), PV.val (.int .i64 0), PV.sl (.own 3 1) [], PV.val (.int .i64 0), PV.val (.int .i64 0), PV.val (.int .i64 0)] Fz w (Value.cells (.agg #[.int .i64 0, .int .i64 0, .int .i64 0, .slice none 0 0, .slice none 0 0, .int .i64 0, .int .i64 0, .int .i64 0, .int .i64 0, .slice none 0 0, .int .i64 0, .int .i64 0, .int .i64 0])).toList [] := zo_val rfl (zo_val rfl (zo_val rfl (zo_sl (zo_sl (zo_val rfl (zo_val rfl (zo_val rfl (zo_val rfl (zo_sl (zo_val rfl (zo_val rfl (zo_val rfl (zo_nil)))))))))))))
theorem zo_80 {Fz : FzT} {w : World} : OwnL [PV.val (.int .i64 0), PV.val (.int .i64 0), PV.sl (.own 3 1) [], PV.sl (.own 3 1) [], PV.sl (.own 3 1) []] Fz w (Value.cells (.agg #[.int .i64 0, .int .i64 0, .slice none 0 0, .slice none 0 0, .slice none 0 0])).toList [] := zo_val rfl (zo_val rfl (zo_sl (zo_sl (zo_sl (zo_nil)))))
theorem zo_88 {Fz : FzT} {w : World} : OwnL [PV.sl (.own 90 4) []] Fz w (Value.cells (.slice none 0 0)).toList [] := zo_sl (zo_nil)
theorem zo_90 {Fz : FzT} {w : World} : OwnL [PV.val (.int .i64 0), PV.sl (.own 3 1) [], PV.val (.int .i64 0), PV.val (.int .i64 0)] Fz w (Value.cells (.agg #[.int .i64 0, .slice none 0 0, .int .i64 0, .int .i64 0])).toList [] := zo_val rfl (zo_sl (zo_val rfl (zo_val rfl (zo_nil))))
end Go.Proofs.YtaomckpfgmhapaaDoor
