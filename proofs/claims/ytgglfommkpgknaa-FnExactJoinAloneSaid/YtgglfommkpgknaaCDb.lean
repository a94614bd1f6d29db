/- Facts about the types of the program. No condition. -/
import Derived.Test.YtgglfommkpgknaaProg
import Derived.Test.YtgglfommkpgknaaCDa
import Derived.KernelRfl
set_option linter.unusedVariables false
namespace Go.Proofs.Ytgglfommkpgknaa
open Go Go.RowKit M
set_option maxRecDepth 10000
theorem hm_ : Try.prog.follows .mixedOrders = true := by kernel_rfl
theorem c_100 : callI Try.prog 100 = true := by kernel_rfl
theorem c_106 : callI Try.prog 106 = true := by kernel_rfl
theorem c_107 : callI Try.prog 107 = true := by kernel_rfl
theorem c_110 : callI Try.prog 110 = true := by kernel_rfl
theorem c_111 : callI Try.prog 111 = true := by kernel_rfl
theorem c_112 : callI Try.prog 112 = true := by kernel_rfl
theorem c_113 : callI Try.prog 113 = true := by kernel_rfl
theorem c_114 : callI Try.prog 114 = true := by kernel_rfl
theorem c_115 : callI Try.prog 115 = true := by kernel_rfl
theorem c_116 : callI Try.prog 116 = true := by kernel_rfl
theorem c_117 : callI Try.prog 117 = true := by kernel_rfl
theorem c_118 : callI Try.prog 118 = true := by kernel_rfl
theorem c_119 : callI Try.prog 119 = true := by kernel_rfl
theorem c_120 : callI Try.prog 120 = true := by kernel_rfl
theorem c_123 : callI Try.prog 123 = true := by kernel_rfl
theorem c_129 : callI Try.prog 129 = true := by kernel_rfl
theorem c_130 : callI Try.prog 130 = true := by kernel_rfl
theorem c_131 : callI Try.prog 131 = true := by kernel_rfl
theorem c_132 : callI Try.prog 132 = true := by kernel_rfl
theorem c_133 : callI Try.prog 133 = true := by kernel_rfl
theorem c_19 : callI Try.prog 19 = true := by kernel_rfl
theorem c_20 : callI Try.prog 20 = true := by kernel_rfl
theorem c_21 : callI Try.prog 21 = true := by kernel_rfl
theorem c_22 : callI Try.prog 22 = true := by kernel_rfl
theorem c_23 : callI Try.prog 23 = true := by kernel_rfl
theorem c_24 : callI Try.prog 24 = true := by kernel_rfl
theorem c_27 : callI Try.prog 27 = true := by kernel_rfl
theorem c_28 : callI Try.prog 28 = true := by kernel_rfl
theorem c_34 : callI Try.prog 34 = true := by kernel_rfl
theorem c_35 : callI Try.prog 35 = true := by kernel_rfl
theorem c_36 : callI Try.prog 36 = true := by kernel_rfl
theorem c_37 : callI Try.prog 37 = true := by kernel_rfl
theorem c_38 : callI Try.prog 38 = true := by kernel_rfl
theorem c_39 : callI Try.prog 39 = true := by kernel_rfl
theorem c_40 : callI Try.prog 40 = true := by kernel_rfl
theorem c_41 : callI Try.prog 41 = true := by kernel_rfl
theorem c_42 : callI Try.prog 42 = true := by kernel_rfl
theorem c_43 : callI Try.prog 43 = true := by kernel_rfl
theorem c_44 : callI Try.prog 44 = true := by kernel_rfl
theorem c_45 : callI Try.prog 45 = true := by kernel_rfl
theorem c_46 : callI Try.prog 46 = true := by kernel_rfl
theorem c_47 : callI Try.prog 47 = true := by kernel_rfl
theorem c_48 : callI Try.prog 48 = true := by kernel_rfl
theorem c_49 : callI Try.prog 49 = true := by kernel_rfl
theorem c_50 : callI Try.prog 50 = true := by kernel_rfl
theorem c_51 : callI Try.prog 51 = true := by kernel_rfl
theorem c_52 : callI Try.prog 52 = true := by kernel_rfl
theorem c_53 : callI Try.prog 53 = true := by kernel_rfl
theorem c_54 : callI Try.prog 54 = true := by kernel_rfl
theorem c_55 : callI Try.prog 55 = true := by kernel_rfl
theorem c_60 : callI Try.prog 60 = true := by kernel_rfl
theorem c_61 : callI Try.prog 61 = true := by kernel_rfl
theorem c_65 : callI Try.prog 65 = true := by kernel_rfl
theorem c_66 : callI Try.prog 66 = true := by kernel_rfl
theorem c_67 : callI Try.prog 67 = true := by kernel_rfl
theorem c_68 : callI Try.prog 68 = true := by kernel_rfl
theorem c_69 : callI Try.prog 69 = true := by kernel_rfl
theorem c_70 : callI Try.prog 70 = true := by kernel_rfl
theorem c_71 : callI Try.prog 71 = true := by kernel_rfl
theorem c_72 : callI Try.prog 72 = true := by kernel_rfl
theorem c_73 : callI Try.prog 73 = true := by kernel_rfl
theorem c_75 : callI Try.prog 75 = true := by kernel_rfl
theorem c_77 : callI Try.prog 77 = true := by kernel_rfl
theorem c_78 : callI Try.prog 78 = true := by kernel_rfl
theorem c_79 : callI Try.prog 79 = true := by kernel_rfl
theorem c_80 : callI Try.prog 80 = true := by kernel_rfl
theorem c_81 : callI Try.prog 81 = true := by kernel_rfl
theorem c_82 : callI Try.prog 82 = true := by kernel_rfl
theorem c_83 : callI Try.prog 83 = true := by kernel_rfl
theorem c_84 : callI Try.prog 84 = true := by kernel_rfl
theorem c_85 : callI Try.prog 85 = true := by kernel_rfl
theorem c_86 : callI Try.prog 86 = true := by kernel_rfl
theorem c_87 : callI Try.prog 87 = true := by kernel_rfl
theorem c_89 : callI Try.prog 89 = true := by kernel_rfl
theorem c_90 : callI Try.prog 90 = true := by kernel_rfl
theorem c_91 : callI Try.prog 91 = true := by kernel_rfl
theorem c_92 : callI Try.prog 92 = true := by kernel_rfl
theorem c_93 : callI Try.prog 93 = true := by kernel_rfl
theorem c_94 : callI Try.prog 94 = true := by kernel_rfl
theorem c_95 : callI Try.prog 95 = true := by kernel_rfl
theorem c_96 : callI Try.prog 96 = true := by kernel_rfl
theorem c_97 : callI Try.prog 97 = true := by kernel_rfl
theorem c_98 : callI Try.prog 98 = true := by kernel_rfl
theorem c_99 : callI Try.prog 99 = true := by kernel_rfl
theorem fd_102_0 : fieldI Try.prog 102 0 = some 0 := by kernel_rfl
theorem fd_102_1 : fieldI Try.prog 102 1 = some 1 := by kernel_rfl
theorem fd_102_2 : fieldI Try.prog 102 2 = some 2 := by kernel_rfl
theorem fd_103_0 : fieldI Try.prog 103 0 = some 0 := by kernel_rfl
theorem fd_103_1 : fieldI Try.prog 103 1 = some 1 := by kernel_rfl
theorem fd_103_2 : fieldI Try.prog 103 2 = some 2 := by kernel_rfl
theorem fd_113_0 : fieldI Try.prog 113 0 = some 0 := by kernel_rfl
theorem fd_113_1 : fieldI Try.prog 113 1 = some 1 := by kernel_rfl
theorem fd_115_0 : fieldI Try.prog 115 0 = some 0 := by kernel_rfl
theorem fd_115_1 : fieldI Try.prog 115 1 = some 1 := by kernel_rfl
theorem fd_135_0 : fieldI Try.prog 135 0 = some 0 := by kernel_rfl
theorem fd_135_1 : fieldI Try.prog 135 1 = some 2 := by kernel_rfl
theorem fd_138_0 : fieldI Try.prog 138 0 = some 0 := by kernel_rfl
theorem fd_138_1 : fieldI Try.prog 138 1 = some 2 := by kernel_rfl
theorem fd_30_0 : fieldI Try.prog 30 0 = some 0 := by kernel_rfl
theorem fd_30_1 : fieldI Try.prog 30 1 = some 1 := by kernel_rfl
theorem fd_30_2 : fieldI Try.prog 30 2 = some 2 := by kernel_rfl
theorem fd_35_0 : fieldI Try.prog 35 0 = some 0 := by kernel_rfl
theorem fd_35_1 : fieldI Try.prog 35 1 = some 1 := by kernel_rfl
theorem fd_35_2 : fieldI Try.prog 35 2 = some 2 := by kernel_rfl
theorem fd_57_0 : fieldI Try.prog 57 0 = some 0 := by kernel_rfl
theorem fd_57_1 : fieldI Try.prog 57 1 = some 1 := by kernel_rfl
theorem fd_60_0 : fieldI Try.prog 60 0 = some 0 := by kernel_rfl
theorem fd_60_1 : fieldI Try.prog 60 1 = some 1 := by kernel_rfl
theorem fd_64_0 : fieldI Try.prog 64 0 = some 0 := by kernel_rfl
theorem fd_64_1 : fieldI Try.prog 64 1 = some 1 := by kernel_rfl
theorem fd_68_0 : fieldI Try.prog 68 0 = some 0 := by kernel_rfl
theorem fd_68_1 : fieldI Try.prog 68 1 = some 1 := by kernel_rfl
theorem pl_103 : placesI Try.prog 103 = some [(0, 1), (1, 1), (2, 1)] := by kernel_rfl
theorem pl_138 : placesI Try.prog 138 = some [(0, 2), (2, 1)] := by kernel_rfl
theorem pl_35 : placesI Try.prog 35 = some [(0, 1), (1, 1), (2, 1)] := by kernel_rfl
theorem pl_64 : placesI Try.prog 64 = some [(0, 1), (1, 1)] := by kernel_rfl
theorem pl_68 : placesI Try.prog 68 = some [(0, 1), (1, 1)] := by kernel_rfl
theorem sl_22 : sliceI Try.prog 22 = some (102, 3, 40) := by kernel_rfl
theorem sl_25 : sliceI Try.prog 25 = some (103, 3, 40) := by kernel_rfl
theorem sl_28 : sliceI Try.prog 28 = some (60, 2, 32) := by kernel_rfl
theorem sl_33 : sliceI Try.prog 33 = some (68, 2, 32) := by kernel_rfl
theorem sl_42 : sliceI Try.prog 42 = some (113, 2, 32) := by kernel_rfl
theorem sl_45 : sliceI Try.prog 45 = some (115, 2, 32) := by kernel_rfl
theorem sl_58 : sliceI Try.prog 58 = some (3, 1, 8) := by kernel_rfl
theorem sl_91 : sliceI Try.prog 91 = some (135, 3, 56) := by kernel_rfl
theorem sl_94 : sliceI Try.prog 94 = some (138, 3, 56) := by kernel_rfl
theorem ty_102 : tyI Try.prog 102 = some (true, 3) := by kernel_rfl
theorem ty_103 : tyI Try.prog 103 = some (true, 3) := by kernel_rfl
theorem ty_113 : tyI Try.prog 113 = some (true, 2) := by kernel_rfl
theorem ty_115 : tyI Try.prog 115 = some (true, 2) := by kernel_rfl
theorem ty_135 : tyI Try.prog 135 = some (true, 3) := by kernel_rfl
theorem ty_138 : tyI Try.prog 138 = some (true, 3) := by kernel_rfl
theorem ty_28 : tyI Try.prog 28 = some (false, 1) := by kernel_rfl
theorem ty_3 : tyI Try.prog 3 = some (false, 1) := by kernel_rfl
theorem ty_30 : tyI Try.prog 30 = some (true, 3) := by kernel_rfl
theorem ty_33 : tyI Try.prog 33 = some (false, 1) := by kernel_rfl
theorem ty_35 : tyI Try.prog 35 = some (true, 3) := by kernel_rfl
theorem ty_57 : tyI Try.prog 57 = some (true, 2) := by kernel_rfl
theorem ty_58 : tyI Try.prog 58 = some (false, 1) := by kernel_rfl
theorem ty_60 : tyI Try.prog 60 = some (true, 2) := by kernel_rfl
theorem ty_64 : tyI Try.prog 64 = some (true, 2) := by kernel_rfl
theorem ty_68 : tyI Try.prog 68 = some (true, 2) := by kernel_rfl
theorem ty_91 : tyI Try.prog 91 = some (false, 1) := by kernel_rfl
theorem ub_4 : Try.prog.underlying 4 = some .bool := by kernel_rfl
theorem z_103 : zeroI Try.prog 103 = some (.agg #[.int .i64 0, .int .i64 0, .slice none 0 0]) := by kernel_rfl
theorem z_115 : zeroI Try.prog 115 = some (.agg #[.int .i64 0, .slice none 0 0]) := by kernel_rfl
theorem z_138 : zeroI Try.prog 138 = some (.agg #[.int .i64 0, .slice none 0 0, .slice none 0 0]) := by kernel_rfl
theorem z_3 : zeroI Try.prog 3 = some (.int .i64 0) := by kernel_rfl
theorem z_35 : zeroI Try.prog 35 = some (.agg #[.slice none 0 0, .int .i64 0, .int .i64 0]) := by kernel_rfl
theorem z_64 : zeroI Try.prog 64 = some (.agg #[.int .i64 0, .slice none 0 0]) := by kernel_rfl
theorem z_68 : zeroI Try.prog 68 = some (.agg #[.int .i64 0, .slice none 0 0]) := by kernel_rfl
theorem zo_103 {Fz : FzT} {w : World} : OwnL [PV.val (.int .i64 0), PV.val (.int .i64 0), PV.sl (.own 3 1) []] Fz w (Value.cells (.agg #[.int .i64 0, .int .i64 0, .slice none 0 0])).toList [] := zo_val rfl (zo_val rfl (zo_sl (zo_nil)))
theorem zo_115 {Fz : FzT} {w : World} : OwnL [PV.val (.int .i64 0), PV.sl (.own 68 2) []] Fz w (Value.cells (.agg #[.int .i64 0, .slice none 0 0])).toList [] := zo_val rfl (zo_sl (zo_nil))
theorem zo_138 {Fz : FzT} {w : World} : OwnL [PV.val (.int .i64 0), PV.sl (.own 3 1) [], PV.sl (.own 3 1) []] Fz w (Value.cells (.agg #[.int .i64 0, .slice none 0 0, .slice none 0 0])).toList [] := zo_val rfl (zo_sl (zo_sl (zo_nil)))
theorem zo_3 {Fz : FzT} {w : World} : OwnL [PV.val (.int .i64 0)] Fz w (Value.cells (.int .i64 0)).toList [] := zo_val rfl (zo_nil)
theorem zo_35 {Fz : FzT} {w : World} : OwnL [PV.sl (.own 68 2) [], PV.val (.int .i64 0), PV.val (.int .i64 0)] Fz w (Value.cells (.agg #[.slice none 0 0, .int .i64 0, .int .i64 0])).toList [] := zo_sl (zo_val rfl (zo_val rfl (zo_nil)))
theorem zo_64 {Fz : FzT} {w : World} : OwnL [PV.val (.int .i64 0), PV.sl (.own 68 2) []] Fz w (Value.cells (.agg #[.int .i64 0, .slice none 0 0])).toList [] := zo_val rfl (zo_sl (zo_nil))
theorem zo_68 {Fz : FzT} {w : World} : OwnL [PV.val (.int .i64 0), PV.sl (.own 3 1) []] Fz w (Value.cells (.agg #[.int .i64 0, .slice none 0 0])).toList [] := zo_val rfl (zo_sl (zo_nil))
theorem open_Int : OpenT Try.prog 3 cInt gdInt := open_i Try.underlying3
theorem open_IntS : OpenT Try.prog 58 (cIntS .v) gdIntS := open_sl (e := 1) (by kernel_rfl) (by kernel_rfl) (by decide) open_Int (fun _ => rfl)
theorem open_Row : OpenT Try.prog 60 (cRow .v) gdRow := by
  intro H enc w sp held n cs x hx
  obtain ⟨hl, hf⟩ := open_fields (l := [(3, 0, 1), (58, 1, 1)]) (by kernel_rfl) hx
  have hl : cs.length = 2 := hl.trans (by kernel_rfl)
  obtain ⟨n0, y0, z0⟩ := hf 0 _ rfl
  obtain ⟨a0, h0, g0⟩ := open_Int enc w _ _ _ _ _ z0
  obtain ⟨n1, y1, z1⟩ := hf 1 _ rfl
  obtain ⟨a1, h1, g1⟩ := open_IntS enc w _ _ _ _ _ z1
  exact ⟨⟨a0, a1⟩, (rel_cat (o := 0) h0 (rel_cat (o := 1) h1 (rel_end hl))), ⟨g0, g1⟩⟩
theorem open_RowS : OpenT Try.prog 28 (cRowS .v .v) gdRowS := open_sl (e := 2) (by kernel_rfl) (by kernel_rfl) (by decide) open_Row (fun _ => rfl)
theorem open_Client : OpenT Try.prog 57 (cClient .v .v) gdClient := by
  intro H enc w sp held n cs x hx
  obtain ⟨hl, hf⟩ := open_fields (l := [(3, 0, 1), (28, 1, 1)]) (by kernel_rfl) hx
  have hl : cs.length = 2 := hl.trans (by kernel_rfl)
  obtain ⟨n0, y0, z0⟩ := hf 0 _ rfl
  obtain ⟨a0, h0, g0⟩ := open_Int enc w _ _ _ _ _ z0
  obtain ⟨n1, y1, z1⟩ := hf 1 _ rfl
  obtain ⟨a1, h1, g1⟩ := open_RowS enc w _ _ _ _ _ z1
  exact ⟨⟨a0, a1⟩, (rel_cat (o := 0) h0 (rel_cat (o := 1) h1 (rel_end hl))), ⟨g0, g1⟩⟩
theorem open_Outbox : OpenT Try.prog 30 (cOutbox .v .v) gdOutbox := by
  intro H enc w sp held n cs x hx
  obtain ⟨hl, hf⟩ := open_fields (l := [(28, 0, 1), (3, 1, 1), (3, 2, 1)]) (by kernel_rfl) hx
  have hl : cs.length = 3 := hl.trans (by kernel_rfl)
  obtain ⟨n0, y0, z0⟩ := hf 0 _ rfl
  obtain ⟨a0, h0, g0⟩ := open_RowS enc w _ _ _ _ _ z0
  obtain ⟨n1, y1, z1⟩ := hf 1 _ rfl
  obtain ⟨a1, h1, g1⟩ := open_Int enc w _ _ _ _ _ z1
  obtain ⟨n2, y2, z2⟩ := hf 2 _ rfl
  obtain ⟨a2, h2, g2⟩ := open_Int enc w _ _ _ _ _ z2
  exact ⟨⟨a0, a1, a2⟩, (rel_cat (o := 0) h0 (rel_cat (o := 1) h1 (rel_cat (o := 2) h2 (rel_end hl)))), ⟨g0, g1, g2⟩⟩
theorem open_Annotated : OpenT Try.prog 135 (cAnnotated .v .v) gdAnnotated := by
  intro H enc w sp held n cs x hx
  obtain ⟨hl, hf⟩ := open_fields (l := [(60, 0, 2), (58, 2, 1)]) (by kernel_rfl) hx
  have hl : cs.length = 3 := hl.trans (by kernel_rfl)
  obtain ⟨n0, y0, z0⟩ := hf 0 _ rfl
  obtain ⟨a0, h0, g0⟩ := open_Row enc w _ _ _ _ _ z0
  obtain ⟨n1, y1, z1⟩ := hf 1 _ rfl
  obtain ⟨a1, h1, g1⟩ := open_IntS enc w _ _ _ _ _ z1
  exact ⟨⟨a0, a1⟩, (rel_cat (o := 0) h0 (rel_cat (o := 2) h1 (rel_end hl))), ⟨g0, g1⟩⟩
theorem open_AnnotatedS : OpenT Try.prog 91 (cAnnotatedS .v .v .v) gdAnnotatedS := open_sl (e := 3) (by kernel_rfl) (by kernel_rfl) (by decide) open_Annotated (fun _ => rfl)
end Go.Proofs.Ytgglfommkpgknaa
