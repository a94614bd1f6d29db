/- Facts about the program. No condition. -/
import Derived.Test.YtmekkgdboplbjaaCDb
import Derived.KernelRfl
set_option linter.unusedVariables false
namespace Go.Proofs.Ytmekkgdboplbjaa
open Go Go.RowKit M PV
set_option maxRecDepth 10000
theorem c_10 : callI Try.prog 10 = true := by kernel_rfl
theorem c_11 : callI Try.prog 11 = true := by kernel_rfl
theorem c_12 : callI Try.prog 12 = true := by kernel_rfl
theorem c_13 : callI Try.prog 13 = true := by kernel_rfl
theorem c_14 : callI Try.prog 14 = true := by kernel_rfl
theorem c_15 : callI Try.prog 15 = true := by kernel_rfl
theorem c_16 : callI Try.prog 16 = true := by kernel_rfl
theorem c_17 : callI Try.prog 17 = true := by kernel_rfl
theorem c_18 : callI Try.prog 18 = true := by kernel_rfl
theorem c_21 : callI Try.prog 21 = true := by kernel_rfl
theorem c_22 : callI Try.prog 22 = true := by kernel_rfl
theorem c_23 : callI Try.prog 23 = true := by kernel_rfl
theorem c_24 : callI Try.prog 24 = true := by kernel_rfl
theorem c_25 : callI Try.prog 25 = true := by kernel_rfl
theorem c_26 : callI Try.prog 26 = true := by kernel_rfl
theorem c_27 : callI Try.prog 27 = true := by kernel_rfl
theorem c_28 : callI Try.prog 28 = true := by kernel_rfl
theorem c_29 : callI Try.prog 29 = true := by kernel_rfl
theorem c_30 : callI Try.prog 30 = true := by kernel_rfl
theorem c_31 : callI Try.prog 31 = true := by kernel_rfl
theorem c_32 : callI Try.prog 32 = true := by kernel_rfl
theorem c_34 : callI Try.prog 34 = true := by kernel_rfl
theorem c_35 : callI Try.prog 35 = true := by kernel_rfl
theorem c_36 : callI Try.prog 36 = true := by kernel_rfl
theorem c_37 : callI Try.prog 37 = true := by kernel_rfl
theorem c_38 : callI Try.prog 38 = true := by kernel_rfl
theorem c_39 : callI Try.prog 39 = true := by kernel_rfl
theorem c_4 : callI Try.prog 4 = true := by kernel_rfl
theorem c_40 : callI Try.prog 40 = true := by kernel_rfl
theorem c_41 : callI Try.prog 41 = true := by kernel_rfl
theorem c_42 : callI Try.prog 42 = true := by kernel_rfl
theorem c_44 : callI Try.prog 44 = true := by kernel_rfl
theorem c_45 : callI Try.prog 45 = true := by kernel_rfl
theorem c_46 : callI Try.prog 46 = true := by kernel_rfl
theorem c_47 : callI Try.prog 47 = true := by kernel_rfl
theorem c_48 : callI Try.prog 48 = true := by kernel_rfl
theorem c_49 : callI Try.prog 49 = true := by kernel_rfl
theorem c_5 : callI Try.prog 5 = true := by kernel_rfl
theorem c_50 : callI Try.prog 50 = true := by kernel_rfl
theorem c_53 : callI Try.prog 53 = true := by kernel_rfl
theorem c_54 : callI Try.prog 54 = true := by kernel_rfl
theorem c_55 : callI Try.prog 55 = true := by kernel_rfl
theorem c_56 : callI Try.prog 56 = true := by kernel_rfl
theorem c_59 : callI Try.prog 59 = true := by kernel_rfl
theorem c_6 : callI Try.prog 6 = true := by kernel_rfl
theorem c_63 : callI Try.prog 63 = true := by kernel_rfl
theorem c_64 : callI Try.prog 64 = true := by kernel_rfl
theorem c_67 : callI Try.prog 67 = true := by kernel_rfl
theorem c_68 : callI Try.prog 68 = true := by kernel_rfl
theorem c_69 : callI Try.prog 69 = true := by kernel_rfl
theorem c_7 : callI Try.prog 7 = true := by kernel_rfl
theorem c_70 : callI Try.prog 70 = true := by kernel_rfl
theorem c_71 : callI Try.prog 71 = true := by kernel_rfl
theorem c_72 : callI Try.prog 72 = true := by kernel_rfl
theorem c_73 : callI Try.prog 73 = true := by kernel_rfl
theorem c_74 : callI Try.prog 74 = true := by kernel_rfl
theorem c_75 : callI Try.prog 75 = true := by kernel_rfl
theorem c_76 : callI Try.prog 76 = true := by kernel_rfl
theorem c_77 : callI Try.prog 77 = true := by kernel_rfl
theorem c_78 : callI Try.prog 78 = true := by kernel_rfl
theorem c_79 : callI Try.prog 79 = true := by kernel_rfl
theorem c_8 : callI Try.prog 8 = true := by kernel_rfl
theorem c_80 : callI Try.prog 80 = true := by kernel_rfl
theorem c_82 : callI Try.prog 82 = true := by kernel_rfl
theorem c_83 : callI Try.prog 83 = true := by kernel_rfl
theorem c_84 : callI Try.prog 84 = true := by kernel_rfl
theorem c_88 : callI Try.prog 88 = true := by kernel_rfl
theorem c_9 : callI Try.prog 9 = true := by kernel_rfl
theorem c_91 : callI Try.prog 91 = true := by kernel_rfl
theorem fd_107_0 : fieldI Try.prog 107 0 = some 0 := by kernel_rfl
theorem fd_107_1 : fieldI Try.prog 107 1 = some 1 := by kernel_rfl
theorem fd_107_2 : fieldI Try.prog 107 2 = some 2 := by kernel_rfl
theorem fd_107_3 : fieldI Try.prog 107 3 = some 3 := by kernel_rfl
theorem fd_26_0 : fieldI Try.prog 26 0 = some 0 := by kernel_rfl
theorem fd_26_1 : fieldI Try.prog 26 1 = some 1 := by kernel_rfl
theorem fd_32_0 : fieldI Try.prog 32 0 = some 0 := by kernel_rfl
theorem fd_32_1 : fieldI Try.prog 32 1 = some 2 := by kernel_rfl
theorem fd_32_2 : fieldI Try.prog 32 2 = some 3 := by kernel_rfl
theorem fd_32_3 : fieldI Try.prog 32 3 = some 4 := by kernel_rfl
theorem fd_32_4 : fieldI Try.prog 32 4 = some 5 := by kernel_rfl
theorem fd_32_5 : fieldI Try.prog 32 5 = some 6 := by kernel_rfl
theorem fd_32_6 : fieldI Try.prog 32 6 = some 7 := by kernel_rfl
theorem fd_54_0 : fieldI Try.prog 54 0 = some 0 := by kernel_rfl
theorem fd_54_1 : fieldI Try.prog 54 1 = some 4 := by kernel_rfl
theorem fd_54_2 : fieldI Try.prog 54 2 = some 5 := by kernel_rfl
theorem fd_54_3 : fieldI Try.prog 54 3 = some 6 := by kernel_rfl
theorem fd_70_0 : fieldI Try.prog 70 0 = some 0 := by kernel_rfl
theorem fd_70_1 : fieldI Try.prog 70 1 = some 4 := by kernel_rfl
theorem fd_70_2 : fieldI Try.prog 70 2 = some 5 := by kernel_rfl
theorem fd_70_3 : fieldI Try.prog 70 3 = some 6 := by kernel_rfl
theorem fd_70_4 : fieldI Try.prog 70 4 = some 7 := by kernel_rfl
theorem fd_70_5 : fieldI Try.prog 70 5 = some 8 := by kernel_rfl
theorem fd_70_6 : fieldI Try.prog 70 6 = some 9 := by kernel_rfl
theorem fd_73_0 : fieldI Try.prog 73 0 = some 0 := by kernel_rfl
theorem fd_73_1 : fieldI Try.prog 73 1 = some 1 := by kernel_rfl
theorem fd_73_2 : fieldI Try.prog 73 2 = some 2 := by kernel_rfl
theorem fd_73_3 : fieldI Try.prog 73 3 = some 3 := by kernel_rfl
theorem fd_73_4 : fieldI Try.prog 73 4 = some 4 := by kernel_rfl
theorem fd_85_0 : fieldI Try.prog 85 0 = some 0 := by kernel_rfl
theorem fd_85_1 : fieldI Try.prog 85 1 = some 1 := by kernel_rfl
theorem fd_85_2 : fieldI Try.prog 85 2 = some 2 := by kernel_rfl
theorem sl_24 : sliceI Try.prog 24 = some (71, 1, 24) := by kernel_rfl
theorem sl_28 : sliceI Try.prog 28 = some (70, 10, 144) := by kernel_rfl
theorem sl_29 : sliceI Try.prog 29 = some (54, 7, 104) := by kernel_rfl
theorem sl_30 : sliceI Try.prog 30 = some (73, 5, 88) := by kernel_rfl
theorem sl_33 : sliceI Try.prog 33 = some (49, 13, 152) := by kernel_rfl
theorem sl_71 : sliceI Try.prog 71 = some (107, 4, 48) := by kernel_rfl
theorem ty_107 : tyI Try.prog 107 = some (true, 4) := by kernel_rfl
theorem ty_22 : tyI Try.prog 22 = some (false, 1) := by kernel_rfl
theorem ty_24 : tyI Try.prog 24 = some (false, 1) := by kernel_rfl
theorem ty_26 : tyI Try.prog 26 = some (true, 2) := by kernel_rfl
theorem ty_28 : tyI Try.prog 28 = some (false, 1) := by kernel_rfl
theorem ty_29 : tyI Try.prog 29 = some (false, 1) := by kernel_rfl
theorem ty_30 : tyI Try.prog 30 = some (false, 1) := by kernel_rfl
theorem ty_32 : tyI Try.prog 32 = some (true, 8) := by kernel_rfl
theorem ty_49 : tyI Try.prog 49 = some (true, 13) := by kernel_rfl
theorem ty_5 : tyI Try.prog 5 = some (false, 1) := by kernel_rfl
theorem ty_52 : tyI Try.prog 52 = some (false, 1) := by kernel_rfl
theorem ty_54 : tyI Try.prog 54 = some (true, 7) := by kernel_rfl
theorem ty_70 : tyI Try.prog 70 = some (true, 10) := by kernel_rfl
theorem ty_71 : tyI Try.prog 71 = some (false, 1) := by kernel_rfl
theorem ty_73 : tyI Try.prog 73 = some (true, 5) := by kernel_rfl
theorem z_107 : zeroI Try.prog 107 = some (.agg #[.int .i64 0, .slice none 0 0, .int .i64 0, .int .i64 0]) := by kernel_rfl
theorem z_26 : zeroI Try.prog 26 = some (.agg #[.slice none 0 0, .int .i64 0]) := by kernel_rfl
theorem z_32 : zeroI Try.prog 32 = some (.agg #[.slice none 0 0, .int .i64 0, .int .i64 0, .slice none 0 0, .slice none 0 0, .slice none 0 0, .slice none 0 0, .int .i64 0]) := by kernel_rfl
theorem z_49 : zeroI Try.prog 49 = some (.agg #[.int .i64 0, .int .i64 0, .int .i64 0, .slice none 0 0, .slice none 0 0, .int .i64 0, .int .i64 0, .int .i64 0, .int .i64 0, .slice none 0 0, .int .i64 0, .int .i64 0, .int .i64 0]) := by kernel_rfl
theorem z_54 : zeroI Try.prog 54 = some (.agg #[.int .i64 0, .int .i64 0, .slice none 0 0, .slice none 0 0, .int .i64 0, .int .i64 0, .slice none 0 0]) := by kernel_rfl
theorem z_70 : zeroI Try.prog 70 = some (.agg #[.int .i64 0, .int .i64 0, .slice none 0 0, .slice none 0 0, .int .i64 0, .slice none 0 0, .int .i64 0, .int .i64 0, .int .i64 0, .slice none 0 0]) := by kernel_rfl
theorem z_71 : zeroI Try.prog 71 = some (.slice none 0 0) := by kernel_rfl
theorem z_73 : zeroI Try.prog 73 = some (.agg #[.int .i64 0, .int .i64 0, .slice none 0 0, .slice none 0 0, .slice none 0 0]) := by kernel_rfl
theorem z_85 : zeroI Try.prog 85 = some (.agg #[.slice none 0 0, .int .i64 0, .int .i64 0]) := by kernel_rfl
theorem zo_107 {Fz : FzT} {w : World} : OwnL [val (.int .i64 0), sl (.own 3 1) [], val (.int .i64 0), val (.int .i64 0)] Fz w (Value.cells (.agg #[.int .i64 0, .slice none 0 0, .int .i64 0, .int .i64 0])).toList [] := zo_val rfl (zo_sl (zo_val rfl (zo_val rfl (zo_nil))))
theorem zo_26 {Fz : FzT} {w : World} : OwnL [sl (.own 71 1) [], val (.int .i64 0)] Fz w (Value.cells (.agg #[.slice none 0 0, .int .i64 0])).toList [] := zo_sl (zo_val rfl (zo_nil))
theorem zo_32 {Fz : FzT} {w : World} : OwnL [sl (.own 71 1) [], val (.int .i64 0), val (.int .i64 0), sl (.own 3 1) [], sl (.own 70 10) [], sl (.own 54 7) [], sl (.own 73 5) [], val (.int .i64 0)] Fz w (Value.cells (.agg #[.slice none 0 0, .int .i64 0, .int .i64 0, .slice none 0 0, .slice none 0 0, .slice none 0 0, .slice none 0 0, .int .i64 0])).toList [] := zo_sl (zo_val rfl (zo_val rfl (zo_sl (zo_sl (zo_sl (zo_sl (zo_val rfl (zo_nil))))))))
theorem zo_49 {Fz : FzT} {w : World} : OwnL [val (.int .i64 0), val (.int .i64 0), val (.int .i64 0), sl (.own 41 3) [], sl (.own 3 1) [], val (.int .i64 0), val (.int .i64 0), val (.int .i64 0), val (.int .i64 0), sl (.own 3 1) [], val (.int .i64 0), val (.int .i64 0), val (.int .i64 0)] Fz w (Value.cells (.agg #[.int .i64 0, .int .i64 0, .int .i64 0, .slice none 0 0, .slice none 0 0, .int .i64 0, .int .i64 0, .int .i64 0, .int .i64 0, .slice none 0 0, .int .i64 0, .int .i64 0, .int .i64 0])).toList [] := zo_val rfl (zo_val rfl (zo_val rfl (zo_sl (zo_sl (zo_val rfl (zo_val rfl (zo_val rfl (zo_val rfl (zo_sl (zo_val rfl (zo_val rfl (zo_val rfl (zo_nil)))))))))))))
theorem zo_54 {Fz : FzT} {w : World} : OwnL [val (.int .i64 0), val (.int .i64 0), sl (.own 41 3) [], sl (.own 3 1) [], val (.int .i64 0), val (.int .i64 0), sl (.own 45 2) []] Fz w (Value.cells (.agg #[.int .i64 0, .int .i64 0, .slice none 0 0, .slice none 0 0, .int .i64 0, .int .i64 0, .slice none 0 0])).toList [] := zo_val rfl (zo_val rfl (zo_sl (zo_sl (zo_val rfl (zo_val rfl (zo_sl (zo_nil)))))))
theorem zo_70 {Fz : FzT} {w : World} : OwnL [val (.int .i64 0), val (.int .i64 0), sl (.own 41 3) [], sl (.own 3 1) [], val (.int .i64 0), sl (.own 3 1) [], val (.int .i64 0), val (.int .i64 0), val (.int .i64 0), sl (.own 45 2) []] Fz w (Value.cells (.agg #[.int .i64 0, .int .i64 0, .slice none 0 0, .slice none 0 0, .int .i64 0, .slice none 0 0, .int .i64 0, .int .i64 0, .int .i64 0, .slice none 0 0])).toList [] := zo_val rfl (zo_val rfl (zo_sl (zo_sl (zo_val rfl (zo_sl (zo_val rfl (zo_val rfl (zo_val rfl (zo_sl (zo_nil))))))))))
theorem zo_73 {Fz : FzT} {w : World} : OwnL [val (.int .i64 0), val (.int .i64 0), sl (.own 3 1) [], sl (.own 3 1) [], sl (.own 3 1) []] Fz w (Value.cells (.agg #[.int .i64 0, .int .i64 0, .slice none 0 0, .slice none 0 0, .slice none 0 0])).toList [] := zo_val rfl (zo_val rfl (zo_sl (zo_sl (zo_sl (zo_nil)))))
theorem zo_85 {Fz : FzT} {w : World} : OwnL [sl (.own 5 1) [], val (.int .i64 0), val (.int .i64 0)] Fz w (Value.cells (.agg #[.slice none 0 0, .int .i64 0, .int .i64 0])).toList [] := zo_sl (zo_val rfl (zo_val rfl (zo_nil)))
end Go.Proofs.Ytmekkgdboplbjaa
