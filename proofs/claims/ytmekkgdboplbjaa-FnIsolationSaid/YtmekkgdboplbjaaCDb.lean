/- Facts about the types of the program. No condition. -/
import Derived.Test.YtmekkgdboplbjaaProg
import Derived.Test.YtmekkgdboplbjaaCDa
import Derived.KernelRfl
set_option linter.unusedVariables false
namespace Go.Proofs.Ytmekkgdboplbjaa
open Go Go.RowKit M
set_option maxRecDepth 10000
theorem hm_ : Try.prog.follows .mixedOrders = true := by kernel_rfl
theorem c_19 : callI Try.prog 19 = true := by kernel_rfl
theorem c_20 : callI Try.prog 20 = true := by kernel_rfl
theorem c_33 : callI Try.prog 33 = true := by kernel_rfl
theorem c_43 : callI Try.prog 43 = true := by kernel_rfl
theorem c_51 : callI Try.prog 51 = true := by kernel_rfl
theorem c_52 : callI Try.prog 52 = true := by kernel_rfl
theorem c_57 : callI Try.prog 57 = true := by kernel_rfl
theorem c_58 : callI Try.prog 58 = true := by kernel_rfl
theorem c_60 : callI Try.prog 60 = true := by kernel_rfl
theorem c_61 : callI Try.prog 61 = true := by kernel_rfl
theorem c_62 : callI Try.prog 62 = true := by kernel_rfl
theorem c_65 : callI Try.prog 65 = true := by kernel_rfl
theorem c_66 : callI Try.prog 66 = true := by kernel_rfl
theorem c_81 : callI Try.prog 81 = true := by kernel_rfl
theorem c_85 : callI Try.prog 85 = true := by kernel_rfl
theorem c_86 : callI Try.prog 86 = true := by kernel_rfl
theorem c_87 : callI Try.prog 87 = true := by kernel_rfl
theorem c_89 : callI Try.prog 89 = true := by kernel_rfl
theorem c_90 : callI Try.prog 90 = true := by kernel_rfl
theorem fd_38_0 : fieldI Try.prog 38 0 = some 0 := by kernel_rfl
theorem fd_38_1 : fieldI Try.prog 38 1 = some 1 := by kernel_rfl
theorem fd_38_2 : fieldI Try.prog 38 2 = some 2 := by kernel_rfl
theorem fd_38_3 : fieldI Try.prog 38 3 = some 3 := by kernel_rfl
theorem fd_41_0 : fieldI Try.prog 41 0 = some 0 := by kernel_rfl
theorem fd_41_1 : fieldI Try.prog 41 1 = some 1 := by kernel_rfl
theorem fd_41_2 : fieldI Try.prog 41 2 = some 2 := by kernel_rfl
theorem fd_45_0 : fieldI Try.prog 45 0 = some 0 := by kernel_rfl
theorem fd_45_1 : fieldI Try.prog 45 1 = some 1 := by kernel_rfl
theorem fd_47_0 : fieldI Try.prog 47 0 = some 0 := by kernel_rfl
theorem fd_47_1 : fieldI Try.prog 47 1 = some 1 := by kernel_rfl
theorem fd_47_2 : fieldI Try.prog 47 2 = some 3 := by kernel_rfl
theorem fd_47_3 : fieldI Try.prog 47 3 = some 4 := by kernel_rfl
theorem fd_49_0 : fieldI Try.prog 49 0 = some 0 := by kernel_rfl
theorem fd_49_1 : fieldI Try.prog 49 1 = some 1 := by kernel_rfl
theorem fd_49_2 : fieldI Try.prog 49 2 = some 5 := by kernel_rfl
theorem fd_49_3 : fieldI Try.prog 49 3 = some 6 := by kernel_rfl
theorem fd_49_4 : fieldI Try.prog 49 4 = some 7 := by kernel_rfl
theorem fd_49_5 : fieldI Try.prog 49 5 = some 12 := by kernel_rfl
theorem pl_38 : placesI Try.prog 38 = some [(0, 1), (1, 1), (2, 1), (3, 1)] := by kernel_rfl
theorem pl_45 : placesI Try.prog 45 = some [(0, 1), (1, 1)] := by kernel_rfl
theorem pl_47 : placesI Try.prog 47 = some [(0, 1), (1, 2), (3, 1), (4, 1)] := by kernel_rfl
theorem se_neq_41 (x y : Nat) (a0 a1 a2 b0 b1 b2 : Int) (w : World) : Sem.run Try.prog (do eqGuard .neq 41 (.tmp x) (.tmp y) (.agg #[vI a0, vI a1, vI a2]) (.agg #[vI b0, vI b1, vI b2]); binOp .neq 41 (.agg #[vI a0, vI a1, vI a2]) (.agg #[vI b0, vI b1, vI b2]) : Sem Value) w = .ok (.bool (!(a0 == b0 && a1 == b1 && a2 == b2))) w := by
 have hS : Try.prog.underlying 41 = some (.struct (Try.prog.fieldsOf 41)) := by kernel_rfl
 have hp : Try.prog.stoodInHeld 41 = false := by kernel_rfl
 have hm : Try.prog.eqGuardType Try.prog.depth 41 = false := by kernel_rfl
 have hU := Try.underlying41
 have u3 := Try.underlying3
 have a3_ := Try.isAgg3
 have z3 := Try.sizeOf3
 rw [Sem.run_bind, run_eqGuard_agg w _ _ _ _ _ _ hm, Result.andThen_ok, run_neq_struct]
 rw [show (10000 : Nat) = 9999 + 1 from rfl, run_equalIn_agg w 9999 41 _ _ hS hp]
 simp only [Program.fieldsOf, hU]
 go_simp
 by_cases h0 : a0 = b0 <;> by_cases h1 : a1 = b1 <;> by_cases h2 : a2 = b2 <;> simp_all
theorem sl_22 : sliceI Try.prog 22 = some (5, 1, 1) := by kernel_rfl
theorem sl_27 : sliceI Try.prog 27 = some (3, 1, 8) := by kernel_rfl
theorem sl_36 : sliceI Try.prog 36 = some (41, 3, 24) := by kernel_rfl
theorem sl_52 : sliceI Try.prog 52 = some (45, 2, 32) := by kernel_rfl
theorem ty_27 : tyI Try.prog 27 = some (false, 1) := by kernel_rfl
theorem ty_3 : tyI Try.prog 3 = some (false, 1) := by kernel_rfl
theorem ty_36 : tyI Try.prog 36 = some (false, 1) := by kernel_rfl
theorem ty_38 : tyI Try.prog 38 = some (true, 4) := by kernel_rfl
theorem ty_41 : tyI Try.prog 41 = some (true, 3) := by kernel_rfl
theorem ty_45 : tyI Try.prog 45 = some (true, 2) := by kernel_rfl
theorem ty_47 : tyI Try.prog 47 = some (true, 5) := by kernel_rfl
theorem z_3 : zeroI Try.prog 3 = some (.int .i64 0) := by kernel_rfl
theorem z_38 : zeroI Try.prog 38 = some (.agg #[.int .i64 0, .int .i64 0, .slice none 0 0, .slice none 0 0]) := by kernel_rfl
theorem z_41 : zeroI Try.prog 41 = some (.agg #[.int .i64 0, .int .i64 0, .int .i64 0]) := by kernel_rfl
theorem z_45 : zeroI Try.prog 45 = some (.agg #[.int .i64 0, .slice none 0 0]) := by kernel_rfl
theorem z_47 : zeroI Try.prog 47 = some (.agg #[.int .i64 0, .int .i64 0, .slice none 0 0, .int .i64 0, .int .i64 0]) := by kernel_rfl
theorem zo_38 {Fz : FzT} {w : World} : OwnL [PV.val (.int .i64 0), PV.val (.int .i64 0), PV.sl (.own 41 3) [], PV.sl (.own 3 1) []] Fz w (Value.cells (.agg #[.int .i64 0, .int .i64 0, .slice none 0 0, .slice none 0 0])).toList [] := zo_val rfl (zo_val rfl (zo_sl (zo_sl (zo_nil))))
theorem zo_41 {Fz : FzT} {w : World} : OwnL [PV.val (.int .i64 0), PV.val (.int .i64 0), PV.val (.int .i64 0)] Fz w (Value.cells (.agg #[.int .i64 0, .int .i64 0, .int .i64 0])).toList [] := zo_val rfl (zo_val rfl (zo_val rfl (zo_nil)))
theorem zo_45 {Fz : FzT} {w : World} : OwnL [PV.val (.int .i64 0), PV.sl (.own 3 1) []] Fz w (Value.cells (.agg #[.int .i64 0, .slice none 0 0])).toList [] := zo_val rfl (zo_sl (zo_nil))
theorem zo_47 {Fz : FzT} {w : World} : OwnL [PV.val (.int .i64 0), PV.val (.int .i64 0), PV.sl (.own 3 1) [], PV.val (.int .i64 0), PV.val (.int .i64 0)] Fz w (Value.cells (.agg #[.int .i64 0, .int .i64 0, .slice none 0 0, .int .i64 0, .int .i64 0])).toList [] := zo_val rfl (zo_val rfl (zo_sl (zo_val rfl (zo_val rfl (zo_nil)))))
end Go.Proofs.Ytmekkgdboplbjaa
