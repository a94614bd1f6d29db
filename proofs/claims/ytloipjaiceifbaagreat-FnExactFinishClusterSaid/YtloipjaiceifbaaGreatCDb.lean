/- Facts about the types of the program. No condition. -/
import Derived.Test.YtloipjaiceifbaaGreatProg
import Derived.Test.YtloipjaiceifbaaGreatCDa
import Derived.KernelRfl
set_option linter.unusedVariables false
namespace Go.Proofs.YtloipjaiceifbaaGreat
open Go Go.RowKit M
set_option maxRecDepth 10000
theorem hm_ : Tryz.prog.follows .mixedOrders = true := by kernel_rfl
theorem c_107 : callI Tryz.prog 107 = true := by kernel_rfl
theorem c_108 : callI Tryz.prog 108 = true := by kernel_rfl
theorem c_109 : callI Tryz.prog 109 = true := by kernel_rfl
theorem c_110 : callI Tryz.prog 110 = true := by kernel_rfl
theorem c_111 : callI Tryz.prog 111 = true := by kernel_rfl
theorem c_112 : callI Tryz.prog 112 = true := by kernel_rfl
theorem c_119 : callI Tryz.prog 119 = true := by kernel_rfl
theorem c_14 : callI Tryz.prog 14 = true := by kernel_rfl
theorem c_15 : callI Tryz.prog 15 = true := by kernel_rfl
theorem c_16 : callI Tryz.prog 16 = true := by kernel_rfl
theorem c_17 : callI Tryz.prog 17 = true := by kernel_rfl
theorem c_19 : callI Tryz.prog 19 = true := by kernel_rfl
theorem c_20 : callI Tryz.prog 20 = true := by kernel_rfl
theorem c_22 : callI Tryz.prog 22 = true := by kernel_rfl
theorem c_23 : callI Tryz.prog 23 = true := by kernel_rfl
theorem c_25 : callI Tryz.prog 25 = true := by kernel_rfl
theorem c_26 : callI Tryz.prog 26 = true := by kernel_rfl
theorem c_27 : callI Tryz.prog 27 = true := by kernel_rfl
theorem c_28 : callI Tryz.prog 28 = true := by kernel_rfl
theorem c_30 : callI Tryz.prog 30 = true := by kernel_rfl
theorem c_32 : callI Tryz.prog 32 = true := by kernel_rfl
theorem c_33 : callI Tryz.prog 33 = true := by kernel_rfl
theorem c_34 : callI Tryz.prog 34 = true := by kernel_rfl
theorem c_37 : callI Tryz.prog 37 = true := by kernel_rfl
theorem c_38 : callI Tryz.prog 38 = true := by kernel_rfl
theorem c_39 : callI Tryz.prog 39 = true := by kernel_rfl
theorem c_40 : callI Tryz.prog 40 = true := by kernel_rfl
theorem c_41 : callI Tryz.prog 41 = true := by kernel_rfl
theorem c_42 : callI Tryz.prog 42 = true := by kernel_rfl
theorem c_43 : callI Tryz.prog 43 = true := by kernel_rfl
theorem c_44 : callI Tryz.prog 44 = true := by kernel_rfl
theorem c_45 : callI Tryz.prog 45 = true := by kernel_rfl
theorem c_46 : callI Tryz.prog 46 = true := by kernel_rfl
theorem c_47 : callI Tryz.prog 47 = true := by kernel_rfl
theorem c_48 : callI Tryz.prog 48 = true := by kernel_rfl
theorem c_49 : callI Tryz.prog 49 = true := by kernel_rfl
theorem c_50 : callI Tryz.prog 50 = true := by kernel_rfl
theorem c_51 : callI Tryz.prog 51 = true := by kernel_rfl
theorem c_52 : callI Tryz.prog 52 = true := by kernel_rfl
theorem c_53 : callI Tryz.prog 53 = true := by kernel_rfl
theorem c_54 : callI Tryz.prog 54 = true := by kernel_rfl
theorem c_55 : callI Tryz.prog 55 = true := by kernel_rfl
theorem c_56 : callI Tryz.prog 56 = true := by kernel_rfl
theorem c_57 : callI Tryz.prog 57 = true := by kernel_rfl
theorem c_58 : callI Tryz.prog 58 = true := by kernel_rfl
theorem c_59 : callI Tryz.prog 59 = true := by kernel_rfl
theorem c_60 : callI Tryz.prog 60 = true := by kernel_rfl
theorem c_61 : callI Tryz.prog 61 = true := by kernel_rfl
theorem c_62 : callI Tryz.prog 62 = true := by kernel_rfl
theorem c_63 : callI Tryz.prog 63 = true := by kernel_rfl
theorem c_64 : callI Tryz.prog 64 = true := by kernel_rfl
theorem c_65 : callI Tryz.prog 65 = true := by kernel_rfl
theorem c_66 : callI Tryz.prog 66 = true := by kernel_rfl
theorem c_67 : callI Tryz.prog 67 = true := by kernel_rfl
theorem c_68 : callI Tryz.prog 68 = true := by kernel_rfl
theorem c_69 : callI Tryz.prog 69 = true := by kernel_rfl
theorem c_70 : callI Tryz.prog 70 = true := by kernel_rfl
theorem c_71 : callI Tryz.prog 71 = true := by kernel_rfl
theorem c_72 : callI Tryz.prog 72 = true := by kernel_rfl
theorem c_73 : callI Tryz.prog 73 = true := by kernel_rfl
theorem c_74 : callI Tryz.prog 74 = true := by kernel_rfl
theorem c_77 : callI Tryz.prog 77 = true := by kernel_rfl
theorem c_78 : callI Tryz.prog 78 = true := by kernel_rfl
theorem c_79 : callI Tryz.prog 79 = true := by kernel_rfl
theorem c_80 : callI Tryz.prog 80 = true := by kernel_rfl
theorem c_81 : callI Tryz.prog 81 = true := by kernel_rfl
theorem c_82 : callI Tryz.prog 82 = true := by kernel_rfl
theorem c_83 : callI Tryz.prog 83 = true := by kernel_rfl
theorem c_84 : callI Tryz.prog 84 = true := by kernel_rfl
theorem c_85 : callI Tryz.prog 85 = true := by kernel_rfl
theorem c_86 : callI Tryz.prog 86 = true := by kernel_rfl
theorem c_87 : callI Tryz.prog 87 = true := by kernel_rfl
theorem c_88 : callI Tryz.prog 88 = true := by kernel_rfl
theorem c_89 : callI Tryz.prog 89 = true := by kernel_rfl
theorem c_90 : callI Tryz.prog 90 = true := by kernel_rfl
theorem c_91 : callI Tryz.prog 91 = true := by kernel_rfl
theorem c_92 : callI Tryz.prog 92 = true := by kernel_rfl
theorem c_93 : callI Tryz.prog 93 = true := by kernel_rfl
theorem c_94 : callI Tryz.prog 94 = true := by kernel_rfl
theorem c_95 : callI Tryz.prog 95 = true := by kernel_rfl
theorem fd_102_0 : fieldI Tryz.prog 102 0 = some 0 := by kernel_rfl
theorem fd_102_1 : fieldI Tryz.prog 102 1 = some 1 := by kernel_rfl
theorem fd_102_2 : fieldI Tryz.prog 102 2 = some 2 := by kernel_rfl
theorem fd_25_0 : fieldI Tryz.prog 25 0 = some 0 := by kernel_rfl
theorem fd_25_1 : fieldI Tryz.prog 25 1 = some 1 := by kernel_rfl
theorem fd_25_2 : fieldI Tryz.prog 25 2 = some 2 := by kernel_rfl
theorem fd_25_3 : fieldI Tryz.prog 25 3 = some 3 := by kernel_rfl
theorem fd_29_0 : fieldI Tryz.prog 29 0 = some 0 := by kernel_rfl
theorem fd_29_1 : fieldI Tryz.prog 29 1 = some 4 := by kernel_rfl
theorem fd_29_2 : fieldI Tryz.prog 29 2 = some 5 := by kernel_rfl
theorem fd_29_3 : fieldI Tryz.prog 29 3 = some 6 := by kernel_rfl
theorem fd_29_4 : fieldI Tryz.prog 29 4 = some 7 := by kernel_rfl
theorem fd_29_5 : fieldI Tryz.prog 29 5 = some 8 := by kernel_rfl
theorem fd_29_6 : fieldI Tryz.prog 29 6 = some 9 := by kernel_rfl
theorem fd_29_7 : fieldI Tryz.prog 29 7 = some 10 := by kernel_rfl
theorem fd_33_0 : fieldI Tryz.prog 33 0 = some 0 := by kernel_rfl
theorem fd_33_1 : fieldI Tryz.prog 33 1 = some 1 := by kernel_rfl
theorem fd_33_2 : fieldI Tryz.prog 33 2 = some 2 := by kernel_rfl
theorem fd_33_3 : fieldI Tryz.prog 33 3 = some 3 := by kernel_rfl
theorem fd_36_0 : fieldI Tryz.prog 36 0 = some 0 := by kernel_rfl
theorem fd_36_1 : fieldI Tryz.prog 36 1 = some 4 := by kernel_rfl
theorem fd_36_2 : fieldI Tryz.prog 36 2 = some 5 := by kernel_rfl
theorem fd_36_3 : fieldI Tryz.prog 36 3 = some 6 := by kernel_rfl
theorem fd_36_4 : fieldI Tryz.prog 36 4 = some 7 := by kernel_rfl
theorem fd_36_5 : fieldI Tryz.prog 36 5 = some 8 := by kernel_rfl
theorem fd_36_6 : fieldI Tryz.prog 36 6 = some 9 := by kernel_rfl
theorem fd_36_7 : fieldI Tryz.prog 36 7 = some 10 := by kernel_rfl
theorem fd_53_0 : fieldI Tryz.prog 53 0 = some 0 := by kernel_rfl
theorem fd_53_1 : fieldI Tryz.prog 53 1 = some 1 := by kernel_rfl
theorem fd_84_0 : fieldI Tryz.prog 84 0 = some 0 := by kernel_rfl
theorem fd_84_1 : fieldI Tryz.prog 84 1 = some 1 := by kernel_rfl
theorem fd_84_2 : fieldI Tryz.prog 84 2 = some 2 := by kernel_rfl
theorem fd_97_0 : fieldI Tryz.prog 97 0 = some 0 := by kernel_rfl
theorem fd_97_1 : fieldI Tryz.prog 97 1 = some 1 := by kernel_rfl
theorem pl_33 : placesI Tryz.prog 33 = some [(0, 1), (1, 1), (2, 1), (3, 1)] := by kernel_rfl
theorem pl_36 : placesI Tryz.prog 36 = some [(0, 4), (4, 1), (5, 1), (6, 1), (7, 1), (8, 1), (9, 1), (10, 1)] := by kernel_rfl
theorem pl_53 : placesI Tryz.prog 53 = some [(0, 1), (1, 1)] := by kernel_rfl
theorem sl_22 : sliceI Tryz.prog 22 = some (102, 3, 24) := by kernel_rfl
theorem sl_23 : sliceI Tryz.prog 23 = some (3, 1, 8) := by kernel_rfl
theorem sl_26 : sliceI Tryz.prog 26 = some (73, 1, 24) := by kernel_rfl
theorem sl_27 : sliceI Tryz.prog 27 = some (4, 1, 1) := by kernel_rfl
theorem sl_31 : sliceI Tryz.prog 31 = some (84, 3, 24) := by kernel_rfl
theorem sl_34 : sliceI Tryz.prog 34 = some (51, 1, 24) := by kernel_rfl
theorem sl_51 : sliceI Tryz.prog 51 = some (53, 2, 32) := by kernel_rfl
theorem sl_73 : sliceI Tryz.prog 73 = some (97, 2, 32) := by kernel_rfl
theorem ty_102 : tyI Tryz.prog 102 = some (true, 3) := by kernel_rfl
theorem ty_22 : tyI Tryz.prog 22 = some (false, 1) := by kernel_rfl
theorem ty_23 : tyI Tryz.prog 23 = some (false, 1) := by kernel_rfl
theorem ty_25 : tyI Tryz.prog 25 = some (true, 4) := by kernel_rfl
theorem ty_26 : tyI Tryz.prog 26 = some (false, 1) := by kernel_rfl
theorem ty_27 : tyI Tryz.prog 27 = some (false, 1) := by kernel_rfl
theorem ty_3 : tyI Tryz.prog 3 = some (false, 1) := by kernel_rfl
theorem ty_31 : tyI Tryz.prog 31 = some (false, 1) := by kernel_rfl
theorem ty_33 : tyI Tryz.prog 33 = some (true, 4) := by kernel_rfl
theorem ty_34 : tyI Tryz.prog 34 = some (false, 1) := by kernel_rfl
theorem ty_36 : tyI Tryz.prog 36 = some (true, 11) := by kernel_rfl
theorem ty_4 : tyI Tryz.prog 4 = some (false, 1) := by kernel_rfl
theorem ty_51 : tyI Tryz.prog 51 = some (false, 1) := by kernel_rfl
theorem ty_53 : tyI Tryz.prog 53 = some (true, 2) := by kernel_rfl
theorem ty_73 : tyI Tryz.prog 73 = some (false, 1) := by kernel_rfl
theorem ty_84 : tyI Tryz.prog 84 = some (true, 3) := by kernel_rfl
theorem ty_97 : tyI Tryz.prog 97 = some (true, 2) := by kernel_rfl
theorem ub_4 : Tryz.prog.underlying 4 = some .bool := by kernel_rfl
theorem z_3 : zeroI Tryz.prog 3 = some (.int .i64 0) := by kernel_rfl
theorem z_33 : zeroI Tryz.prog 33 = some (.agg #[.int .i64 0, .int .i64 0, .slice none 0 0, .slice none 0 0]) := by kernel_rfl
theorem z_36 : zeroI Tryz.prog 36 = some (.agg #[.int .i64 0, .int .i64 0, .slice none 0 0, .slice none 0 0, .slice none 0 0, .slice none 0 0, .slice none 0 0, .slice none 0 0, .slice none 0 0, .slice none 0 0, .slice none 0 0]) := by kernel_rfl
theorem z_4 : zeroI Tryz.prog 4 = some (.bool false) := by kernel_rfl
theorem z_51 : zeroI Tryz.prog 51 = some (.slice none 0 0) := by kernel_rfl
theorem z_53 : zeroI Tryz.prog 53 = some (.agg #[.int .i64 0, .slice none 0 0]) := by kernel_rfl
theorem z_84 : zeroI Tryz.prog 84 = some (.agg #[.int .i64 0, .int .i64 0, .int .i64 0]) := by kernel_rfl
theorem zo_3 {Fz : FzT} {w : World} : OwnL [PV.val (.int .i64 0)] Fz w (Value.cells (.int .i64 0)).toList [] := zo_val rfl (zo_nil)
theorem zo_33 {Fz : FzT} {w : World} : OwnL [PV.val (.int .i64 0), PV.val (.int .i64 0), PV.sl (.own 84 3) [], PV.sl (.own 3 1) []] Fz w (Value.cells (.agg #[.int .i64 0, .int .i64 0, .slice none 0 0, .slice none 0 0])).toList [] := zo_val rfl (zo_val rfl (zo_sl (zo_sl (zo_nil))))
theorem zo_36 {Fz : FzT} {w : World} : OwnL [PV.val (.int .i64 0), PV.val (.int .i64 0), PV.sl (.own 84 3) [], PV.sl (.own 3 1) [], PV.sl (.own 51 1) [], PV.sl (.own 4 1) [], PV.sl (.own 3 1) [], PV.sl (.own 3 1) [], PV.sl (.own 51 1) [], PV.sl (.own 3 1) [], PV.sl (.own 51 1) []] Fz w (Value.cells (.agg #[.int .i64 0, .int .i64 0, .slice none 0 0, .slice none 0 0, .slice none 0 0, .slice none 0 0, .slice none 0 0, .slice none 0 0, .slice none 0 0, .slice none 0 0, .slice none 0 0])).toList [] := zo_val rfl (zo_val rfl (zo_sl (zo_sl (zo_sl (zo_sl (zo_sl (zo_sl (zo_sl (zo_sl (zo_sl (zo_nil)))))))))))
theorem zo_4 {Fz : FzT} {w : World} : OwnL [PV.val (.bool false)] Fz w (Value.cells (.bool false)).toList [] := zo_val rfl (zo_nil)
theorem zo_51 {Fz : FzT} {w : World} : OwnL [PV.sl (.own 53 2) []] Fz w (Value.cells (.slice none 0 0)).toList [] := zo_sl (zo_nil)
theorem zo_53 {Fz : FzT} {w : World} : OwnL [PV.val (.int .i64 0), PV.sl (.own 3 1) []] Fz w (Value.cells (.agg #[.int .i64 0, .slice none 0 0])).toList [] := zo_val rfl (zo_sl (zo_nil))
theorem zo_84 {Fz : FzT} {w : World} : OwnL [PV.val (.int .i64 0), PV.val (.int .i64 0), PV.val (.int .i64 0)] Fz w (Value.cells (.agg #[.int .i64 0, .int .i64 0, .int .i64 0])).toList [] := zo_val rfl (zo_val rfl (zo_val rfl (zo_nil)))
end Go.Proofs.YtloipjaiceifbaaGreat
