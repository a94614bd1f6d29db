/- Facts about the types of the program. No condition. -/
import Derived.Test.YtmkhofdkdklpdaaGreatProg
import Derived.Test.YtmkhofdkdklpdaaGreatCDa
import Derived.KernelRfl
set_option linter.unusedVariables false
namespace Go.Proofs.YtmkhofdkdklpdaaGreat
open Go Go.RowKit M
set_option maxRecDepth 10000
theorem hm_ : Tryz.prog.follows .mixedOrders = true := by kernel_rfl
theorem c_10 : callI Tryz.prog 10 = true := by kernel_rfl
theorem c_11 : callI Tryz.prog 11 = true := by kernel_rfl
theorem c_114 : callI Tryz.prog 114 = true := by kernel_rfl
theorem c_13 : callI Tryz.prog 13 = true := by kernel_rfl
theorem c_14 : callI Tryz.prog 14 = true := by kernel_rfl
theorem c_15 : callI Tryz.prog 15 = true := by kernel_rfl
theorem c_30 : callI Tryz.prog 30 = true := by kernel_rfl
theorem c_31 : callI Tryz.prog 31 = true := by kernel_rfl
theorem c_35 : callI Tryz.prog 35 = true := by kernel_rfl
theorem c_36 : callI Tryz.prog 36 = true := by kernel_rfl
theorem c_37 : callI Tryz.prog 37 = true := by kernel_rfl
theorem c_39 : callI Tryz.prog 39 = true := by kernel_rfl
theorem c_40 : callI Tryz.prog 40 = true := by kernel_rfl
theorem c_41 : callI Tryz.prog 41 = true := by kernel_rfl
theorem c_42 : callI Tryz.prog 42 = true := by kernel_rfl
theorem c_43 : callI Tryz.prog 43 = true := by kernel_rfl
theorem c_44 : callI Tryz.prog 44 = true := by kernel_rfl
theorem c_45 : callI Tryz.prog 45 = true := by kernel_rfl
theorem c_46 : callI Tryz.prog 46 = true := by kernel_rfl
theorem c_47 : callI Tryz.prog 47 = true := by kernel_rfl
theorem c_48 : callI Tryz.prog 48 = true := by kernel_rfl
theorem c_49 : callI Tryz.prog 49 = true := by kernel_rfl
theorem c_50 : callI Tryz.prog 50 = true := by kernel_rfl
theorem c_51 : callI Tryz.prog 51 = true := by kernel_rfl
theorem c_53 : callI Tryz.prog 53 = true := by kernel_rfl
theorem c_54 : callI Tryz.prog 54 = true := by kernel_rfl
theorem c_57 : callI Tryz.prog 57 = true := by kernel_rfl
theorem c_58 : callI Tryz.prog 58 = true := by kernel_rfl
theorem c_59 : callI Tryz.prog 59 = true := by kernel_rfl
theorem c_60 : callI Tryz.prog 60 = true := by kernel_rfl
theorem c_66 : callI Tryz.prog 66 = true := by kernel_rfl
theorem c_69 : callI Tryz.prog 69 = true := by kernel_rfl
theorem c_70 : callI Tryz.prog 70 = true := by kernel_rfl
theorem c_71 : callI Tryz.prog 71 = true := by kernel_rfl
theorem c_72 : callI Tryz.prog 72 = true := by kernel_rfl
theorem c_73 : callI Tryz.prog 73 = true := by kernel_rfl
theorem c_74 : callI Tryz.prog 74 = true := by kernel_rfl
theorem c_75 : callI Tryz.prog 75 = true := by kernel_rfl
theorem c_76 : callI Tryz.prog 76 = true := by kernel_rfl
theorem c_77 : callI Tryz.prog 77 = true := by kernel_rfl
theorem c_78 : callI Tryz.prog 78 = true := by kernel_rfl
theorem c_79 : callI Tryz.prog 79 = true := by kernel_rfl
theorem c_80 : callI Tryz.prog 80 = true := by kernel_rfl
theorem c_83 : callI Tryz.prog 83 = true := by kernel_rfl
theorem c_85 : callI Tryz.prog 85 = true := by kernel_rfl
theorem c_86 : callI Tryz.prog 86 = true := by kernel_rfl
theorem c_94 : callI Tryz.prog 94 = true := by kernel_rfl
theorem c_95 : callI Tryz.prog 95 = true := by kernel_rfl
theorem c_96 : callI Tryz.prog 96 = true := by kernel_rfl
theorem c_98 : callI Tryz.prog 98 = true := by kernel_rfl
theorem c_99 : callI Tryz.prog 99 = true := by kernel_rfl
theorem fd_27_0 : fieldI Tryz.prog 27 0 = some 0 := by kernel_rfl
theorem fd_27_1 : fieldI Tryz.prog 27 1 = some 1 := by kernel_rfl
theorem fd_27_2 : fieldI Tryz.prog 27 2 = some 2 := by kernel_rfl
theorem fd_27_3 : fieldI Tryz.prog 27 3 = some 3 := by kernel_rfl
theorem fd_31_0 : fieldI Tryz.prog 31 0 = some 0 := by kernel_rfl
theorem fd_31_1 : fieldI Tryz.prog 31 1 = some 4 := by kernel_rfl
theorem fd_31_2 : fieldI Tryz.prog 31 2 = some 5 := by kernel_rfl
theorem fd_31_3 : fieldI Tryz.prog 31 3 = some 6 := by kernel_rfl
theorem fd_31_4 : fieldI Tryz.prog 31 4 = some 7 := by kernel_rfl
theorem fd_31_5 : fieldI Tryz.prog 31 5 = some 8 := by kernel_rfl
theorem fd_31_6 : fieldI Tryz.prog 31 6 = some 9 := by kernel_rfl
theorem fd_31_7 : fieldI Tryz.prog 31 7 = some 10 := by kernel_rfl
theorem fd_63_0 : fieldI Tryz.prog 63 0 = some 0 := by kernel_rfl
theorem fd_63_1 : fieldI Tryz.prog 63 1 = some 1 := by kernel_rfl
theorem fd_79_0 : fieldI Tryz.prog 79 0 = some 0 := by kernel_rfl
theorem fd_79_1 : fieldI Tryz.prog 79 1 = some 1 := by kernel_rfl
theorem fd_79_2 : fieldI Tryz.prog 79 2 = some 2 := by kernel_rfl
theorem pl_27 : placesI Tryz.prog 27 = some [(0, 1), (1, 1), (2, 1), (3, 1)] := by kernel_rfl
theorem pl_31 : placesI Tryz.prog 31 = some [(0, 4), (4, 1), (5, 1), (6, 1), (7, 1), (8, 1), (9, 1), (10, 1)] := by kernel_rfl
theorem pl_63 : placesI Tryz.prog 63 = some [(0, 1), (1, 1)] := by kernel_rfl
theorem se_neq_79 (x y : Nat) (a0 a1 a2 b0 b1 b2 : Int) (w : World) : Sem.run Tryz.prog (do eqGuard .neq 79 (.tmp x) (.tmp y) (.agg #[vI a0, vI a1, vI a2]) (.agg #[vI b0, vI b1, vI b2]); binOp .neq 79 (.agg #[vI a0, vI a1, vI a2]) (.agg #[vI b0, vI b1, vI b2]) : Sem Value) w = .ok (.bool (!(a0 == b0 && a1 == b1 && a2 == b2))) w := by
  have hS : Tryz.prog.underlying 79 = some (.struct (Tryz.prog.fieldsOf 79)) := by kernel_rfl
  have hp : Tryz.prog.stoodInHeld 79 = false := by kernel_rfl
  have hm : Tryz.prog.eqGuardType Tryz.prog.depth 79 = false := by kernel_rfl
  have hU := Tryz.underlying79
  have u3 := Tryz.underlying3
  have a3_ := Tryz.isAgg3
  have z3 := Tryz.sizeOf3
  rw [Sem.run_bind, run_eqGuard_agg w _ _ _ _ _ _ hm, Result.andThen_ok, run_neq_struct]
  rw [show (10000 : Nat) = 9999 + 1 from rfl, run_equalIn_agg w 9999 79 _ _ hS hp]
  simp only [Program.fieldsOf, hU]
  go_simp
  by_cases h0 : a0 = b0 <;> by_cases h1 : a1 = b1 <;> by_cases h2 : a2 = b2 <;> simp_all
theorem sl_22 : sliceI Tryz.prog 22 = some (5, 1, 1) := by kernel_rfl
theorem sl_24 : sliceI Tryz.prog 24 = some (79, 3, 24) := by kernel_rfl
theorem sl_25 : sliceI Tryz.prog 25 = some (3, 1, 8) := by kernel_rfl
theorem sl_28 : sliceI Tryz.prog 28 = some (36, 1, 24) := by kernel_rfl
theorem sl_29 : sliceI Tryz.prog 29 = some (4, 1, 1) := by kernel_rfl
theorem sl_36 : sliceI Tryz.prog 36 = some (63, 2, 32) := by kernel_rfl
theorem ty_24 : tyI Tryz.prog 24 = some (false, 1) := by kernel_rfl
theorem ty_25 : tyI Tryz.prog 25 = some (false, 1) := by kernel_rfl
theorem ty_27 : tyI Tryz.prog 27 = some (true, 4) := by kernel_rfl
theorem ty_28 : tyI Tryz.prog 28 = some (false, 1) := by kernel_rfl
theorem ty_29 : tyI Tryz.prog 29 = some (false, 1) := by kernel_rfl
theorem ty_3 : tyI Tryz.prog 3 = some (false, 1) := by kernel_rfl
theorem ty_31 : tyI Tryz.prog 31 = some (true, 11) := by kernel_rfl
theorem ty_36 : tyI Tryz.prog 36 = some (false, 1) := by kernel_rfl
theorem ty_4 : tyI Tryz.prog 4 = some (false, 1) := by kernel_rfl
theorem ty_63 : tyI Tryz.prog 63 = some (true, 2) := by kernel_rfl
theorem ty_79 : tyI Tryz.prog 79 = some (true, 3) := by kernel_rfl
theorem ub_4 : Tryz.prog.underlying 4 = some .bool := by kernel_rfl
theorem z_27 : zeroI Tryz.prog 27 = some (.agg #[.int .i64 0, .int .i64 0, .slice none 0 0, .slice none 0 0]) := by kernel_rfl
theorem z_3 : zeroI Tryz.prog 3 = some (.int .i64 0) := by kernel_rfl
theorem z_31 : zeroI Tryz.prog 31 = some (.agg #[.int .i64 0, .int .i64 0, .slice none 0 0, .slice none 0 0, .slice none 0 0, .slice none 0 0, .slice none 0 0, .slice none 0 0, .slice none 0 0, .slice none 0 0, .slice none 0 0]) := by kernel_rfl
theorem z_36 : zeroI Tryz.prog 36 = some (.slice none 0 0) := by kernel_rfl
theorem z_4 : zeroI Tryz.prog 4 = some (.bool false) := by kernel_rfl
theorem z_63 : zeroI Tryz.prog 63 = some (.agg #[.int .i64 0, .slice none 0 0]) := by kernel_rfl
theorem z_79 : zeroI Tryz.prog 79 = some (.agg #[.int .i64 0, .int .i64 0, .int .i64 0]) := by kernel_rfl
theorem zo_27 {Fz : FzT} {w : World} : OwnL [PV.val (.int .i64 0), PV.val (.int .i64 0), PV.sl (.own 79 3) [], PV.sl (.own 3 1) []] Fz w (Value.cells (.agg #[.int .i64 0, .int .i64 0, .slice none 0 0, .slice none 0 0])).toList [] := zo_val rfl (zo_val rfl (zo_sl (zo_sl (zo_nil))))
theorem zo_31 {Fz : FzT} {w : World} : OwnL [PV.val (.int .i64 0), PV.val (.int .i64 0), PV.sl (.own 79 3) [], PV.sl (.own 3 1) [], PV.sl (.own 36 1) [], PV.sl (.own 4 1) [], PV.sl (.own 3 1) [], PV.sl (.own 3 1) [], PV.sl (.own 36 1) [], PV.sl (.own 3 1) [], PV.sl (.own 36 1) []] Fz w (Value.cells (.agg #[.int .i64 0, .int .i64 0, .slice none 0 0, .slice none 0 0, .slice none 0 0, .slice none 0 0, .slice none 0 0, .slice none 0 0, .slice none 0 0, .slice none 0 0, .slice none 0 0])).toList [] := zo_val rfl (zo_val rfl (zo_sl (zo_sl (zo_sl (zo_sl (zo_sl (zo_sl (zo_sl (zo_sl (zo_sl (zo_nil)))))))))))
theorem zo_63 {Fz : FzT} {w : World} : OwnL [PV.val (.int .i64 0), PV.sl (.own 3 1) []] Fz w (Value.cells (.agg #[.int .i64 0, .slice none 0 0])).toList [] := zo_val rfl (zo_sl (zo_nil))
theorem zo_79 {Fz : FzT} {w : World} : OwnL [PV.val (.int .i64 0), PV.val (.int .i64 0), PV.val (.int .i64 0)] Fz w (Value.cells (.agg #[.int .i64 0, .int .i64 0, .int .i64 0])).toList [] := zo_val rfl (zo_val rfl (zo_val rfl (zo_nil)))
end Go.Proofs.YtmkhofdkdklpdaaGreat
