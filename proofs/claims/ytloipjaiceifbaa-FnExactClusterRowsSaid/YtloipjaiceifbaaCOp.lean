/- What arguments read as. No condition. -/
import Derived.Test.YtloipjaiceifbaaCDb
set_option linter.unusedVariables false
set_option linter.unusedSimpArgs false
namespace Go.Proofs.Ytloipjaiceifbaa
open Go Go.RowKit M
set_option maxRecDepth 10000
theorem open_Int : OpenT Try.prog 3 cInt gdInt := open_i Try.underlying3
theorem open_Cond : OpenT Try.prog 132 cCond gdCond := by
  intro H enc w sp held n cs x hx
  obtain ⟨hl, hf⟩ := open_fields (l := [(3, 0, 1), (3, 1, 1), (3, 2, 1)]) (by kernel_rfl) hx
  have hl : cs.length = 3 := hl.trans (by kernel_rfl)
  obtain ⟨n0, y0, z0⟩ := hf 0 _ rfl
  obtain ⟨a0, h0, g0⟩ := open_Int enc w _ _ _ _ _ z0
  obtain ⟨n1, y1, z1⟩ := hf 1 _ rfl
  obtain ⟨a1, h1, g1⟩ := open_Int enc w _ _ _ _ _ z1
  obtain ⟨n2, y2, z2⟩ := hf 2 _ rfl
  obtain ⟨a2, h2, g2⟩ := open_Int enc w _ _ _ _ _ z2
  exact ⟨⟨a0, a1, a2⟩, (rel_cat (o := 0) h0 (rel_cat (o := 1) h1 (rel_cat (o := 2) h2 (rel_end hl)))), ⟨g0, g1, g2⟩⟩
theorem open_CondS : OpenT Try.prog 48 (cCondS .v) gdCondS := open_sl (e := 3) (by kernel_rfl) (by kernel_rfl) (by decide) open_Cond (fun _ => rfl)
theorem open_IntS : OpenT Try.prog 38 (cIntS .v) gdIntS := open_sl (e := 1) (by kernel_rfl) (by kernel_rfl) (by decide) open_Int (fun _ => rfl)
theorem open_Query : OpenT Try.prog 50 (cQuery .v .v) gdQuery := by
  intro H enc w sp held n cs x hx
  obtain ⟨hl, hf⟩ := open_fields (l := [(3, 0, 1), (3, 1, 1), (48, 2, 1), (38, 3, 1)]) (by kernel_rfl) hx
  have hl : cs.length = 4 := hl.trans (by kernel_rfl)
  obtain ⟨n0, y0, z0⟩ := hf 0 _ rfl
  obtain ⟨a0, h0, g0⟩ := open_Int enc w _ _ _ _ _ z0
  obtain ⟨n1, y1, z1⟩ := hf 1 _ rfl
  obtain ⟨a1, h1, g1⟩ := open_Int enc w _ _ _ _ _ z1
  obtain ⟨n2, y2, z2⟩ := hf 2 _ rfl
  obtain ⟨a2, h2, g2⟩ := open_CondS enc w _ _ _ _ _ z2
  obtain ⟨n3, y3, z3⟩ := hf 3 _ rfl
  obtain ⟨a3, h3, g3⟩ := open_IntS enc w _ _ _ _ _ z3
  exact ⟨⟨a0, a1, a2, a3⟩, (rel_cat (o := 0) h0 (rel_cat (o := 1) h1 (rel_cat (o := 2) h2 (rel_cat (o := 3) h3 (rel_end hl))))), ⟨g0, g1, g2, g3⟩⟩
theorem open_Row : OpenT Try.prog 82 (cRow .v) gdRow := by
  intro H enc w sp held n cs x hx
  obtain ⟨hl, hf⟩ := open_fields (l := [(3, 0, 1), (38, 1, 1)]) (by kernel_rfl) hx
  have hl : cs.length = 2 := hl.trans (by kernel_rfl)
  obtain ⟨n0, y0, z0⟩ := hf 0 _ rfl
  obtain ⟨a0, h0, g0⟩ := open_Int enc w _ _ _ _ _ z0
  obtain ⟨n1, y1, z1⟩ := hf 1 _ rfl
  obtain ⟨a1, h1, g1⟩ := open_IntS enc w _ _ _ _ _ z1
  exact ⟨⟨a0, a1⟩, (rel_cat (o := 0) h0 (rel_cat (o := 1) h1 (rel_end hl))), ⟨g0, g1⟩⟩
theorem open_RowS : OpenT Try.prog 30 (cRowS .v .v) gdRowS := open_sl (e := 2) (by kernel_rfl) (by kernel_rfl) (by decide) open_Row (fun _ => rfl)
theorem open_RowSS : OpenT Try.prog 51 (cRowSS .v .v .v) gdRowSS := open_sl (e := 1) (by kernel_rfl) (by kernel_rfl) (by decide) open_RowS (fun _ => rfl)
theorem open_Bool : OpenT Try.prog 4 cBool gdBool := open_b Try.underlying4
theorem open_BoolS : OpenT Try.prog 58 (cBoolS .v) gdBoolS := open_sl (e := 1) (by kernel_rfl) (by kernel_rfl) (by decide) open_Bool (fun _ => rfl)
theorem open_Cluster : OpenT Try.prog 73 (cCluster .v .v .v .v .v .v .v .v .v .v .v .v .v .v .v) gdCluster := by
  intro H enc w sp held n cs x hx
  obtain ⟨hl, hf⟩ := open_fields (l := [(50, 0, 4), (51, 4, 1), (58, 5, 1), (38, 6, 1), (38, 7, 1), (51, 8, 1), (38, 9, 1), (51, 10, 1)]) (by kernel_rfl) hx
  have hl : cs.length = 11 := hl.trans (by kernel_rfl)
  obtain ⟨n0, y0, z0⟩ := hf 0 _ rfl
  obtain ⟨a0, h0, g0⟩ := open_Query enc w _ _ _ _ _ z0
  obtain ⟨n1, y1, z1⟩ := hf 1 _ rfl
  obtain ⟨a1, h1, g1⟩ := open_RowSS enc w _ _ _ _ _ z1
  obtain ⟨n2, y2, z2⟩ := hf 2 _ rfl
  obtain ⟨a2, h2, g2⟩ := open_BoolS enc w _ _ _ _ _ z2
  obtain ⟨n3, y3, z3⟩ := hf 3 _ rfl
  obtain ⟨a3, h3, g3⟩ := open_IntS enc w _ _ _ _ _ z3
  obtain ⟨n4, y4, z4⟩ := hf 4 _ rfl
  obtain ⟨a4, h4, g4⟩ := open_IntS enc w _ _ _ _ _ z4
  obtain ⟨n5, y5, z5⟩ := hf 5 _ rfl
  obtain ⟨a5, h5, g5⟩ := open_RowSS enc w _ _ _ _ _ z5
  obtain ⟨n6, y6, z6⟩ := hf 6 _ rfl
  obtain ⟨a6, h6, g6⟩ := open_IntS enc w _ _ _ _ _ z6
  obtain ⟨n7, y7, z7⟩ := hf 7 _ rfl
  obtain ⟨a7, h7, g7⟩ := open_RowSS enc w _ _ _ _ _ z7
  exact ⟨⟨a0, a1, a2, a3, a4, a5, a6, a7⟩, (rel_cat (o := 0) h0 (rel_cat (o := 4) h1 (rel_cat (o := 5) h2 (rel_cat (o := 6) h3 (rel_cat (o := 7) h4 (rel_cat (o := 8) h5 (rel_cat (o := 9) h6 (rel_cat (o := 10) h7 (rel_end hl))))))))), ⟨g0, g1, g2, g3, g4, g5, g6, g7⟩⟩
end Go.Proofs.Ytloipjaiceifbaa
