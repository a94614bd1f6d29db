/- Facts about the types of the program. No condition. -/
import Derived.Test.YtgaaaoapnhambaaProg
import Derived.Test.YtgaaaoapnhambaaCDa
import Derived.KernelRfl
set_option linter.unusedVariables false
namespace Go.Proofs.Ytgaaaoapnhambaa
open Go Go.RowKit M
set_option maxRecDepth 10000
theorem hm_ : Try.prog.follows .mixedOrders = true := by kernel_rfl
theorem c_10 : callI Try.prog 10 = true := by kernel_rfl
theorem c_101 : callI Try.prog 101 = true := by kernel_rfl
theorem c_11 : callI Try.prog 11 = true := by kernel_rfl
theorem c_111 : callI Try.prog 111 = true := by kernel_rfl
theorem c_112 : callI Try.prog 112 = true := by kernel_rfl
theorem c_113 : callI Try.prog 113 = true := by kernel_rfl
theorem c_114 : callI Try.prog 114 = true := by kernel_rfl
theorem c_115 : callI Try.prog 115 = true := by kernel_rfl
theorem c_116 : callI Try.prog 116 = true := by kernel_rfl
theorem c_117 : callI Try.prog 117 = true := by kernel_rfl
theorem c_118 : callI Try.prog 118 = true := by kernel_rfl
theorem c_119 : callI Try.prog 119 = true := by kernel_rfl
theorem c_12 : callI Try.prog 12 = true := by kernel_rfl
theorem c_124 : callI Try.prog 124 = true := by kernel_rfl
theorem c_125 : callI Try.prog 125 = true := by kernel_rfl
theorem c_126 : callI Try.prog 126 = true := by kernel_rfl
theorem c_127 : callI Try.prog 127 = true := by kernel_rfl
theorem c_128 : callI Try.prog 128 = true := by kernel_rfl
theorem c_129 : callI Try.prog 129 = true := by kernel_rfl
theorem c_13 : callI Try.prog 13 = true := by kernel_rfl
theorem c_130 : callI Try.prog 130 = true := by kernel_rfl
theorem c_131 : callI Try.prog 131 = true := by kernel_rfl
theorem c_132 : callI Try.prog 132 = true := by kernel_rfl
theorem c_133 : callI Try.prog 133 = true := by kernel_rfl
theorem c_137 : callI Try.prog 137 = true := by kernel_rfl
theorem c_138 : callI Try.prog 138 = true := by kernel_rfl
theorem c_139 : callI Try.prog 139 = true := by kernel_rfl
theorem c_142 : callI Try.prog 142 = true := by kernel_rfl
theorem c_143 : callI Try.prog 143 = true := by kernel_rfl
theorem c_159 : callI Try.prog 159 = true := by kernel_rfl
theorem c_163 : callI Try.prog 163 = true := by kernel_rfl
theorem c_173 : callI Try.prog 173 = true := by kernel_rfl
theorem c_174 : callI Try.prog 174 = true := by kernel_rfl
theorem c_175 : callI Try.prog 175 = true := by kernel_rfl
theorem c_176 : callI Try.prog 176 = true := by kernel_rfl
theorem c_177 : callI Try.prog 177 = true := by kernel_rfl
theorem c_182 : callI Try.prog 182 = true := by kernel_rfl
theorem c_183 : callI Try.prog 183 = true := by kernel_rfl
theorem c_184 : callI Try.prog 184 = true := by kernel_rfl
theorem c_185 : callI Try.prog 185 = true := by kernel_rfl
theorem c_186 : callI Try.prog 186 = true := by kernel_rfl
theorem c_187 : callI Try.prog 187 = true := by kernel_rfl
theorem c_188 : callI Try.prog 188 = true := by kernel_rfl
theorem c_194 : callI Try.prog 194 = true := by kernel_rfl
theorem c_206 : callI Try.prog 206 = true := by kernel_rfl
theorem c_209 : callI Try.prog 209 = true := by kernel_rfl
theorem c_22 : callI Try.prog 22 = true := by kernel_rfl
theorem c_42 : callI Try.prog 42 = true := by kernel_rfl
theorem c_43 : callI Try.prog 43 = true := by kernel_rfl
theorem c_44 : callI Try.prog 44 = true := by kernel_rfl
theorem c_45 : callI Try.prog 45 = true := by kernel_rfl
theorem c_46 : callI Try.prog 46 = true := by kernel_rfl
theorem c_47 : callI Try.prog 47 = true := by kernel_rfl
theorem c_48 : callI Try.prog 48 = true := by kernel_rfl
theorem c_49 : callI Try.prog 49 = true := by kernel_rfl
theorem c_50 : callI Try.prog 50 = true := by kernel_rfl
theorem c_51 : callI Try.prog 51 = true := by kernel_rfl
theorem c_52 : callI Try.prog 52 = true := by kernel_rfl
theorem c_53 : callI Try.prog 53 = true := by kernel_rfl
theorem c_54 : callI Try.prog 54 = true := by kernel_rfl
theorem c_55 : callI Try.prog 55 = true := by kernel_rfl
theorem c_56 : callI Try.prog 56 = true := by kernel_rfl
theorem c_57 : callI Try.prog 57 = true := by kernel_rfl
theorem c_58 : callI Try.prog 58 = true := by kernel_rfl
theorem c_59 : callI Try.prog 59 = true := by kernel_rfl
theorem c_60 : callI Try.prog 60 = true := by kernel_rfl
theorem c_61 : callI Try.prog 61 = true := by kernel_rfl
theorem c_62 : callI Try.prog 62 = true := by kernel_rfl
theorem c_63 : callI Try.prog 63 = true := by kernel_rfl
theorem c_64 : callI Try.prog 64 = true := by kernel_rfl
theorem c_65 : callI Try.prog 65 = true := by kernel_rfl
theorem c_71 : callI Try.prog 71 = true := by kernel_rfl
theorem c_74 : callI Try.prog 74 = true := by kernel_rfl
theorem c_77 : callI Try.prog 77 = true := by kernel_rfl
theorem c_78 : callI Try.prog 78 = true := by kernel_rfl
theorem c_79 : callI Try.prog 79 = true := by kernel_rfl
theorem c_80 : callI Try.prog 80 = true := by kernel_rfl
theorem c_9 : callI Try.prog 9 = true := by kernel_rfl
theorem c_90 : callI Try.prog 90 = true := by kernel_rfl
theorem c_96 : callI Try.prog 96 = true := by kernel_rfl
theorem fd_205_0 : fieldI Try.prog 205 0 = some 0 := by kernel_rfl
theorem fd_205_1 : fieldI Try.prog 205 1 = some 1 := by kernel_rfl
theorem fd_207_0 : fieldI Try.prog 207 0 = some 0 := by kernel_rfl
theorem fd_207_1 : fieldI Try.prog 207 1 = some 1 := by kernel_rfl
theorem fd_207_2 : fieldI Try.prog 207 2 = some 2 := by kernel_rfl
theorem fd_25_0 : fieldI Try.prog 25 0 = some 0 := by kernel_rfl
theorem fd_25_1 : fieldI Try.prog 25 1 = some 1 := by kernel_rfl
theorem fd_25_2 : fieldI Try.prog 25 2 = some 2 := by kernel_rfl
theorem fd_25_3 : fieldI Try.prog 25 3 = some 3 := by kernel_rfl
theorem fd_29_0 : fieldI Try.prog 29 0 = some 0 := by kernel_rfl
theorem fd_29_1 : fieldI Try.prog 29 1 = some 4 := by kernel_rfl
theorem fd_29_2 : fieldI Try.prog 29 2 = some 5 := by kernel_rfl
theorem fd_29_3 : fieldI Try.prog 29 3 = some 6 := by kernel_rfl
theorem fd_29_4 : fieldI Try.prog 29 4 = some 7 := by kernel_rfl
theorem fd_29_5 : fieldI Try.prog 29 5 = some 8 := by kernel_rfl
theorem fd_29_6 : fieldI Try.prog 29 6 = some 9 := by kernel_rfl
theorem fd_29_7 : fieldI Try.prog 29 7 = some 10 := by kernel_rfl
theorem fd_34_0 : fieldI Try.prog 34 0 = some 0 := by kernel_rfl
theorem fd_34_1 : fieldI Try.prog 34 1 = some 1 := by kernel_rfl
theorem fd_34_2 : fieldI Try.prog 34 2 = some 2 := by kernel_rfl
theorem fd_34_3 : fieldI Try.prog 34 3 = some 3 := by kernel_rfl
theorem fd_37_0 : fieldI Try.prog 37 0 = some 0 := by kernel_rfl
theorem fd_37_1 : fieldI Try.prog 37 1 = some 4 := by kernel_rfl
theorem fd_37_2 : fieldI Try.prog 37 2 = some 5 := by kernel_rfl
theorem fd_37_3 : fieldI Try.prog 37 3 = some 6 := by kernel_rfl
theorem fd_37_4 : fieldI Try.prog 37 4 = some 7 := by kernel_rfl
theorem fd_37_5 : fieldI Try.prog 37 5 = some 8 := by kernel_rfl
theorem fd_37_6 : fieldI Try.prog 37 6 = some 9 := by kernel_rfl
theorem fd_37_7 : fieldI Try.prog 37 7 = some 10 := by kernel_rfl
theorem fd_73_0 : fieldI Try.prog 73 0 = some 0 := by kernel_rfl
theorem fd_73_1 : fieldI Try.prog 73 1 = some 1 := by kernel_rfl
theorem fd_73_2 : fieldI Try.prog 73 2 = some 2 := by kernel_rfl
theorem fd_77_0 : fieldI Try.prog 77 0 = some 0 := by kernel_rfl
theorem fd_77_1 : fieldI Try.prog 77 1 = some 1 := by kernel_rfl
theorem fd_79_0 : fieldI Try.prog 79 0 = some 0 := by kernel_rfl
theorem fd_79_1 : fieldI Try.prog 79 1 = some 1 := by kernel_rfl
theorem fd_79_2 : fieldI Try.prog 79 2 = some 3 := by kernel_rfl
theorem fd_79_3 : fieldI Try.prog 79 3 = some 4 := by kernel_rfl
theorem pl_77 : placesI Try.prog 77 = some [(0, 1), (1, 1)] := by kernel_rfl
theorem se_neq_73 (x y : Nat) (a0 a1 a2 b0 b1 b2 : Int) (w : World) : Sem.run Try.prog (do eqGuard .neq 73 (.tmp x) (.tmp y) (.agg #[vI a0, vI a1, vI a2]) (.agg #[vI b0, vI b1, vI b2]); binOp .neq 73 (.agg #[vI a0, vI a1, vI a2]) (.agg #[vI b0, vI b1, vI b2]) : Sem Value) w = .ok (.bool (!(a0 == b0 && a1 == b1 && a2 == b2))) w := by
  have hS : Try.prog.underlying 73 = some (.struct (Try.prog.fieldsOf 73)) := by kernel_rfl
  have hp : Try.prog.stoodInHeld 73 = false := by kernel_rfl
  have hm : Try.prog.eqGuardType Try.prog.depth 73 = false := by kernel_rfl
  have hU := Try.underlying73
  have u3 := Try.underlying3
  have a3_ := Try.isAgg3
  have z3 := Try.sizeOf3
  rw [Sem.run_bind, run_eqGuard_agg w _ _ _ _ _ _ hm, Result.andThen_ok, run_neq_struct]
  rw [show (10000 : Nat) = 9999 + 1 from rfl, run_equalIn_agg w 9999 73 _ _ hS hp]
  simp only [Program.fieldsOf, hU]
  go_simp
  by_cases h0 : a0 = b0 <;> by_cases h1 : a1 = b1 <;> by_cases h2 : a2 = b2 <;> simp_all
theorem sl_159 : sliceI Try.prog 159 = some (205, 2, 32) := by kernel_rfl
theorem sl_22 : sliceI Try.prog 22 = some (207, 3, 24) := by kernel_rfl
theorem sl_23 : sliceI Try.prog 23 = some (3, 1, 8) := by kernel_rfl
theorem sl_26 : sliceI Try.prog 26 = some (159, 1, 24) := by kernel_rfl
theorem sl_27 : sliceI Try.prog 27 = some (4, 1, 1) := by kernel_rfl
theorem sl_32 : sliceI Try.prog 32 = some (73, 3, 24) := by kernel_rfl
theorem sl_35 : sliceI Try.prog 35 = some (53, 1, 24) := by kernel_rfl
theorem sl_53 : sliceI Try.prog 53 = some (77, 2, 32) := by kernel_rfl
theorem ty_159 : tyI Try.prog 159 = some (false, 1) := by kernel_rfl
theorem ty_205 : tyI Try.prog 205 = some (true, 2) := by kernel_rfl
theorem ty_207 : tyI Try.prog 207 = some (true, 3) := by kernel_rfl
theorem ty_22 : tyI Try.prog 22 = some (false, 1) := by kernel_rfl
theorem ty_23 : tyI Try.prog 23 = some (false, 1) := by kernel_rfl
theorem ty_25 : tyI Try.prog 25 = some (true, 4) := by kernel_rfl
theorem ty_26 : tyI Try.prog 26 = some (false, 1) := by kernel_rfl
theorem ty_27 : tyI Try.prog 27 = some (false, 1) := by kernel_rfl
theorem ty_29 : tyI Try.prog 29 = some (true, 11) := by kernel_rfl
theorem ty_3 : tyI Try.prog 3 = some (false, 1) := by kernel_rfl
theorem ty_32 : tyI Try.prog 32 = some (false, 1) := by kernel_rfl
theorem ty_34 : tyI Try.prog 34 = some (true, 4) := by kernel_rfl
theorem ty_35 : tyI Try.prog 35 = some (false, 1) := by kernel_rfl
theorem ty_37 : tyI Try.prog 37 = some (true, 11) := by kernel_rfl
theorem ty_4 : tyI Try.prog 4 = some (false, 1) := by kernel_rfl
theorem ty_53 : tyI Try.prog 53 = some (false, 1) := by kernel_rfl
theorem ty_73 : tyI Try.prog 73 = some (true, 3) := by kernel_rfl
theorem ty_77 : tyI Try.prog 77 = some (true, 2) := by kernel_rfl
theorem ub_4 : Try.prog.underlying 4 = some .bool := by kernel_rfl
theorem z_3 : zeroI Try.prog 3 = some (.int .i64 0) := by kernel_rfl
theorem z_34 : zeroI Try.prog 34 = some (.agg #[.int .i64 0, .int .i64 0, .slice none 0 0, .slice none 0 0]) := by kernel_rfl
theorem z_37 : zeroI Try.prog 37 = some (.agg #[.int .i64 0, .int .i64 0, .slice none 0 0, .slice none 0 0, .slice none 0 0, .slice none 0 0, .slice none 0 0, .slice none 0 0, .slice none 0 0, .slice none 0 0, .slice none 0 0]) := by kernel_rfl
theorem z_4 : zeroI Try.prog 4 = some (.bool false) := by kernel_rfl
theorem z_53 : zeroI Try.prog 53 = some (.slice none 0 0) := by kernel_rfl
theorem z_73 : zeroI Try.prog 73 = some (.agg #[.int .i64 0, .int .i64 0, .int .i64 0]) := by kernel_rfl
theorem z_77 : zeroI Try.prog 77 = some (.agg #[.int .i64 0, .slice none 0 0]) := by kernel_rfl
theorem zo_3 {Fz : FzT} {w : World} : OwnL [PV.val (.int .i64 0)] Fz w (Value.cells (.int .i64 0)).toList [] := zo_val rfl (zo_nil)
theorem zo_34 {Fz : FzT} {w : World} : OwnL [PV.val (.int .i64 0), PV.val (.int .i64 0), PV.sl (.own 73 3) [], PV.sl (.own 3 1) []] Fz w (Value.cells (.agg #[.int .i64 0, .int .i64 0, .slice none 0 0, .slice none 0 0])).toList [] := zo_val rfl (zo_val rfl (zo_sl (zo_sl (zo_nil))))
theorem zo_37 {Fz : FzT} {w : World} : OwnL [PV.val (.int .i64 0), PV.val (.int .i64 0), PV.sl (.own 73 3) [], PV.sl (.own 3 1) [], PV.sl (.own 53 1) [], PV.sl (.own 4 1) [], PV.sl (.own 3 1) [], PV.sl (.own 3 1) [], PV.sl (.own 53 1) [], PV.sl (.own 3 1) [], PV.sl (.own 53 1) []] Fz w (Value.cells (.agg #[.int .i64 0, .int .i64 0, .slice none 0 0, .slice none 0 0, .slice none 0 0, .slice none 0 0, .slice none 0 0, .slice none 0 0, .slice none 0 0, .slice none 0 0, .slice none 0 0])).toList [] := zo_val rfl (zo_val rfl (zo_sl (zo_sl (zo_sl (zo_sl (zo_sl (zo_sl (zo_sl (zo_sl (zo_sl (zo_nil)))))))))))
theorem zo_4 {Fz : FzT} {w : World} : OwnL [PV.val (.bool false)] Fz w (Value.cells (.bool false)).toList [] := zo_val rfl (zo_nil)
theorem zo_53 {Fz : FzT} {w : World} : OwnL [PV.sl (.own 77 2) []] Fz w (Value.cells (.slice none 0 0)).toList [] := zo_sl (zo_nil)
theorem zo_73 {Fz : FzT} {w : World} : OwnL [PV.val (.int .i64 0), PV.val (.int .i64 0), PV.val (.int .i64 0)] Fz w (Value.cells (.agg #[.int .i64 0, .int .i64 0, .int .i64 0])).toList [] := zo_val rfl (zo_val rfl (zo_val rfl (zo_nil)))
theorem zo_77 {Fz : FzT} {w : World} : OwnL [PV.val (.int .i64 0), PV.sl (.own 3 1) []] Fz w (Value.cells (.agg #[.int .i64 0, .slice none 0 0])).toList [] := zo_val rfl (zo_sl (zo_nil))
theorem open_Int : OpenT Try.prog 3 cInt gdInt := open_i Try.underlying3
theorem open_Cond : OpenT Try.prog 207 cCond gdCond := by
  intro H enc w sp held n cs x hx
  obtain ⟨hl, hf⟩ := open_fields (l := [(3, 0, 1), (3, 1, 1), (3, 2, 1)]) (by kernel_rfl) hx
  have hl : cs.length = 3 := hl.trans (by kernel_rfl)
  obtain ⟨n0, y0, z0⟩ := hf 0 _ rfl
  obtain ⟨a0, h0, g0⟩ := open_Int enc w _ _ _ _ _ z0
  obtain ⟨n1, y1, z1⟩ := hf 1 _ rfl
  obtain ⟨a1, h1, g1⟩ := open_Int enc w _ _ _ _ _ z1
  obtain ⟨n2, y2, z2⟩ := hf 2 _ rfl
  obtain ⟨a2, h2, g2⟩ := open_Int enc w _ _ _ _ _ z2
  exact ⟨⟨a0, a1, a2⟩, (rel_cat (o := 0) h0 (rel_cat (o := 1) h1 (rel_cat (o := 2) h2 (rel_end hl)))), ⟨g0, g1, g2⟩⟩
theorem open_CondS : OpenT Try.prog 22 (cCondS .v) gdCondS := open_sl (e := 3) (by kernel_rfl) (by kernel_rfl) (by decide) open_Cond (fun _ => rfl)
theorem open_IntS : OpenT Try.prog 23 (cIntS .v) gdIntS := open_sl (e := 1) (by kernel_rfl) (by kernel_rfl) (by decide) open_Int (fun _ => rfl)
theorem open_Query : OpenT Try.prog 25 (cQuery .v .v) gdQuery := by
  intro H enc w sp held n cs x hx
  obtain ⟨hl, hf⟩ := open_fields (l := [(3, 0, 1), (3, 1, 1), (22, 2, 1), (23, 3, 1)]) (by kernel_rfl) hx
  have hl : cs.length = 4 := hl.trans (by kernel_rfl)
  obtain ⟨n0, y0, z0⟩ := hf 0 _ rfl
  obtain ⟨a0, h0, g0⟩ := open_Int enc w _ _ _ _ _ z0
  obtain ⟨n1, y1, z1⟩ := hf 1 _ rfl
  obtain ⟨a1, h1, g1⟩ := open_Int enc w _ _ _ _ _ z1
  obtain ⟨n2, y2, z2⟩ := hf 2 _ rfl
  obtain ⟨a2, h2, g2⟩ := open_CondS enc w _ _ _ _ _ z2
  obtain ⟨n3, y3, z3⟩ := hf 3 _ rfl
  obtain ⟨a3, h3, g3⟩ := open_IntS enc w _ _ _ _ _ z3
  exact ⟨⟨a0, a1, a2, a3⟩, (rel_cat (o := 0) h0 (rel_cat (o := 1) h1 (rel_cat (o := 2) h2 (rel_cat (o := 3) h3 (rel_end hl))))), ⟨g0, g1, g2, g3⟩⟩
theorem open_Row : OpenT Try.prog 205 (cRow .v) gdRow := by
  intro H enc w sp held n cs x hx
  obtain ⟨hl, hf⟩ := open_fields (l := [(3, 0, 1), (23, 1, 1)]) (by kernel_rfl) hx
  have hl : cs.length = 2 := hl.trans (by kernel_rfl)
  obtain ⟨n0, y0, z0⟩ := hf 0 _ rfl
  obtain ⟨a0, h0, g0⟩ := open_Int enc w _ _ _ _ _ z0
  obtain ⟨n1, y1, z1⟩ := hf 1 _ rfl
  obtain ⟨a1, h1, g1⟩ := open_IntS enc w _ _ _ _ _ z1
  exact ⟨⟨a0, a1⟩, (rel_cat (o := 0) h0 (rel_cat (o := 1) h1 (rel_end hl))), ⟨g0, g1⟩⟩
theorem open_RowS : OpenT Try.prog 159 (cRowS .v .v) gdRowS := open_sl (e := 2) (by kernel_rfl) (by kernel_rfl) (by decide) open_Row (fun _ => rfl)
theorem open_RowSS : OpenT Try.prog 26 (cRowSS .v .v .v) gdRowSS := open_sl (e := 1) (by kernel_rfl) (by kernel_rfl) (by decide) open_RowS (fun _ => rfl)
theorem open_Bool : OpenT Try.prog 4 cBool gdBool := open_b Try.underlying4
theorem open_BoolS : OpenT Try.prog 27 (cBoolS .v) gdBoolS := open_sl (e := 1) (by kernel_rfl) (by kernel_rfl) (by decide) open_Bool (fun _ => rfl)
theorem open_Cluster : OpenT Try.prog 29 (cCluster .v .v .v .v .v .v .v .v .v .v .v .v .v .v .v) gdCluster := by
  intro H enc w sp held n cs x hx
  obtain ⟨hl, hf⟩ := open_fields (l := [(25, 0, 4), (26, 4, 1), (27, 5, 1), (23, 6, 1), (23, 7, 1), (26, 8, 1), (23, 9, 1), (26, 10, 1)]) (by kernel_rfl) hx
  have hl : cs.length = 11 := hl.trans (by kernel_rfl)
  obtain ⟨n0, y0, z0⟩ := hf 0 _ rfl
  obtain ⟨a0, h0, g0⟩ := open_Query enc w _ _ _ _ _ z0
  obtain ⟨n1, y1, z1⟩ := hf 1 _ rfl
  obtain ⟨a1, h1, g1⟩ := open_RowSS enc w _ _ _ _ _ z1
  obtain ⟨n2, y2, z2⟩ := hf 2 _ rfl
  obtain ⟨a2, h2, g2⟩ := open_BoolS enc w _ _ _ _ _ z2
  obtain ⟨n3, y3, z3⟩ := hf 3 _ rfl
  obtain ⟨a3, h3, g3⟩ := open_IntS enc w _ _ _ _ _ z3
  obtain ⟨n4, y4, z4⟩ := hf 4 _ rfl
  obtain ⟨a4, h4, g4⟩ := open_IntS enc w _ _ _ _ _ z4
  obtain ⟨n5, y5, z5⟩ := hf 5 _ rfl
  obtain ⟨a5, h5, g5⟩ := open_RowSS enc w _ _ _ _ _ z5
  obtain ⟨n6, y6, z6⟩ := hf 6 _ rfl
  obtain ⟨a6, h6, g6⟩ := open_IntS enc w _ _ _ _ _ z6
  obtain ⟨n7, y7, z7⟩ := hf 7 _ rfl
  obtain ⟨a7, h7, g7⟩ := open_RowSS enc w _ _ _ _ _ z7
  exact ⟨⟨a0, a1, a2, a3, a4, a5, a6, a7⟩, (rel_cat (o := 0) h0 (rel_cat (o := 4) h1 (rel_cat (o := 5) h2 (rel_cat (o := 6) h3 (rel_cat (o := 7) h4 (rel_cat (o := 8) h5 (rel_cat (o := 9) h6 (rel_cat (o := 10) h7 (rel_end hl))))))))), ⟨g0, g1, g2, g3, g4, g5, g6, g7⟩⟩
end Go.Proofs.Ytgaaaoapnhambaa
