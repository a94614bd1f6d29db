/- What arguments read as. No condition. -/
import Derived.Test.YtaomckpfgmhapaaDoorCDb
set_option linter.unusedVariables false
set_option linter.unusedSimpArgs false
namespace Go.Proofs.YtaomckpfgmhapaaDoor
open Go Go.RowKit M
set_option maxRecDepth 10000
theorem open_Int : OpenT Tryd.prog 3 cInt gdInt := open_i Tryd.underlying3
theorem open_IntS : OpenT Tryd.prog 41 (cIntS .v) gdIntS := open_sl (e := 1) (by kernel_rfl) (by kernel_rfl) (by decide) open_Int (fun _ => rfl)
theorem open_Charge : OpenT Tryd.prog 76 (cCharge .v .v .v) gdCharge := by
  intro H enc w sp held n cs x hx
  obtain ⟨hl, hf⟩ := open_fields (l := [(3, 0, 1), (3, 1, 1), (41, 2, 1), (41, 3, 1), (41, 4, 1)]) (by kernel_rfl) hx
  have hl : cs.length = 5 := hl.trans (by kernel_rfl)
  obtain ⟨n0, y0, z0⟩ := hf 0 _ rfl
  obtain ⟨a0, h0, g0⟩ := open_Int enc w _ _ _ _ _ z0
  obtain ⟨n1, y1, z1⟩ := hf 1 _ rfl
  obtain ⟨a1, h1, g1⟩ := open_Int enc w _ _ _ _ _ z1
  obtain ⟨n2, y2, z2⟩ := hf 2 _ rfl
  obtain ⟨a2, h2, g2⟩ := open_IntS enc w _ _ _ _ _ z2
  obtain ⟨n3, y3, z3⟩ := hf 3 _ rfl
  obtain ⟨a3, h3, g3⟩ := open_IntS enc w _ _ _ _ _ z3
  obtain ⟨n4, y4, z4⟩ := hf 4 _ rfl
  obtain ⟨a4, h4, g4⟩ := open_IntS enc w _ _ _ _ _ z4
  exact ⟨⟨a0, a1, a2, a3, a4⟩, (rel_cat (o := 0) h0 (rel_cat (o := 1) h1 (rel_cat (o := 2) h2 (rel_cat (o := 3) h3 (rel_cat (o := 4) h4 (rel_end hl)))))), ⟨g0, g1, g2, g3, g4⟩⟩
theorem open_ChargeS : OpenT Tryd.prog 22 (cChargeS .v .v .v .v) gdChargeS := open_sl (e := 5) (by kernel_rfl) (by kernel_rfl) (by decide) open_Charge (fun _ => rfl)
theorem open_Cond : OpenT Tryd.prog 153 cCond gdCond := by
  intro H enc w sp held n cs x hx
  obtain ⟨hl, hf⟩ := open_fields (l := [(3, 0, 1), (3, 1, 1), (3, 2, 1)]) (by kernel_rfl) hx
  have hl : cs.length = 3 := hl.trans (by kernel_rfl)
  obtain ⟨n0, y0, z0⟩ := hf 0 _ rfl
  obtain ⟨a0, h0, g0⟩ := open_Int enc w _ _ _ _ _ z0
  obtain ⟨n1, y1, z1⟩ := hf 1 _ rfl
  obtain ⟨a1, h1, g1⟩ := open_Int enc w _ _ _ _ _ z1
  obtain ⟨n2, y2, z2⟩ := hf 2 _ rfl
  obtain ⟨a2, h2, g2⟩ := open_Int enc w _ _ _ _ _ z2
  exact ⟨⟨a0, a1, a2⟩, (rel_cat (o := 0) h0 (rel_cat (o := 1) h1 (rel_cat (o := 2) h2 (rel_end hl)))), ⟨g0, g1, g2⟩⟩
theorem open_CondS : OpenT Tryd.prog 40 (cCondS .v) gdCondS := open_sl (e := 3) (by kernel_rfl) (by kernel_rfl) (by decide) open_Cond (fun _ => rfl)
theorem open_Query : OpenT Tryd.prog 43 (cQuery .v .v) gdQuery := by
  intro H enc w sp held n cs x hx
  obtain ⟨hl, hf⟩ := open_fields (l := [(3, 0, 1), (3, 1, 1), (40, 2, 1), (41, 3, 1)]) (by kernel_rfl) hx
  have hl : cs.length = 4 := hl.trans (by kernel_rfl)
  obtain ⟨n0, y0, z0⟩ := hf 0 _ rfl
  obtain ⟨a0, h0, g0⟩ := open_Int enc w _ _ _ _ _ z0
  obtain ⟨n1, y1, z1⟩ := hf 1 _ rfl
  obtain ⟨a1, h1, g1⟩ := open_Int enc w _ _ _ _ _ z1
  obtain ⟨n2, y2, z2⟩ := hf 2 _ rfl
  obtain ⟨a2, h2, g2⟩ := open_CondS enc w _ _ _ _ _ z2
  obtain ⟨n3, y3, z3⟩ := hf 3 _ rfl
  obtain ⟨a3, h3, g3⟩ := open_IntS enc w _ _ _ _ _ z3
  exact ⟨⟨a0, a1, a2, a3⟩, (rel_cat (o := 0) h0 (rel_cat (o := 1) h1 (rel_cat (o := 2) h2 (rel_cat (o := 3) h3 (rel_end hl))))), ⟨g0, g1, g2, g3⟩⟩
theorem open_Row : OpenT Tryd.prog 59 (cRow .v) gdRow := by
  intro H enc w sp held n cs x hx
  obtain ⟨hl, hf⟩ := open_fields (l := [(3, 0, 1), (41, 1, 1)]) (by kernel_rfl) hx
  have hl : cs.length = 2 := hl.trans (by kernel_rfl)
  obtain ⟨n0, y0, z0⟩ := hf 0 _ rfl
  obtain ⟨a0, h0, g0⟩ := open_Int enc w _ _ _ _ _ z0
  obtain ⟨n1, y1, z1⟩ := hf 1 _ rfl
  obtain ⟨a1, h1, g1⟩ := open_IntS enc w _ _ _ _ _ z1
  exact ⟨⟨a0, a1⟩, (rel_cat (o := 0) h0 (rel_cat (o := 1) h1 (rel_end hl))), ⟨g0, g1⟩⟩
theorem open_RowS : OpenT Tryd.prog 44 (cRowS .v .v) gdRowS := open_sl (e := 2) (by kernel_rfl) (by kernel_rfl) (by decide) open_Row (fun _ => rfl)
theorem open_Finished : OpenT Tryd.prog 46 (cFinished .v .v .v .v) gdFinished := by
  intro H enc w sp held n cs x hx
  obtain ⟨hl, hf⟩ := open_fields (l := [(43, 0, 4), (3, 4, 1), (3, 5, 1), (44, 6, 1)]) (by kernel_rfl) hx
  have hl : cs.length = 7 := hl.trans (by kernel_rfl)
  obtain ⟨n0, y0, z0⟩ := hf 0 _ rfl
  obtain ⟨a0, h0, g0⟩ := open_Query enc w _ _ _ _ _ z0
  obtain ⟨n1, y1, z1⟩ := hf 1 _ rfl
  obtain ⟨a1, h1, g1⟩ := open_Int enc w _ _ _ _ _ z1
  obtain ⟨n2, y2, z2⟩ := hf 2 _ rfl
  obtain ⟨a2, h2, g2⟩ := open_Int enc w _ _ _ _ _ z2
  obtain ⟨n3, y3, z3⟩ := hf 3 _ rfl
  obtain ⟨a3, h3, g3⟩ := open_RowS enc w _ _ _ _ _ z3
  exact ⟨⟨a0, a1, a2, a3⟩, (rel_cat (o := 0) h0 (rel_cat (o := 4) h1 (rel_cat (o := 5) h2 (rel_cat (o := 6) h3 (rel_end hl))))), ⟨g0, g1, g2, g3⟩⟩
theorem open_Version : OpenT Tryd.prog 150 (cVersion .v) gdVersion := by
  intro H enc w sp held n cs x hx
  obtain ⟨hl, hf⟩ := open_fields (l := [(3, 0, 1), (41, 1, 1), (3, 2, 1), (3, 3, 1)]) (by kernel_rfl) hx
  have hl : cs.length = 4 := hl.trans (by kernel_rfl)
  obtain ⟨n0, y0, z0⟩ := hf 0 _ rfl
  obtain ⟨a0, h0, g0⟩ := open_Int enc w _ _ _ _ _ z0
  obtain ⟨n1, y1, z1⟩ := hf 1 _ rfl
  obtain ⟨a1, h1, g1⟩ := open_IntS enc w _ _ _ _ _ z1
  obtain ⟨n2, y2, z2⟩ := hf 2 _ rfl
  obtain ⟨a2, h2, g2⟩ := open_Int enc w _ _ _ _ _ z2
  obtain ⟨n3, y3, z3⟩ := hf 3 _ rfl
  obtain ⟨a3, h3, g3⟩ := open_Int enc w _ _ _ _ _ z3
  exact ⟨⟨a0, a1, a2, a3⟩, (rel_cat (o := 0) h0 (rel_cat (o := 1) h1 (rel_cat (o := 2) h2 (rel_cat (o := 3) h3 (rel_end hl))))), ⟨g0, g1, g2, g3⟩⟩
theorem open_VersionS : OpenT Tryd.prog 128 (cVersionS .v .v) gdVersionS := open_sl (e := 4) (by kernel_rfl) (by kernel_rfl) (by decide) open_Version (fun _ => rfl)
theorem open_VersionSS : OpenT Tryd.prog 29 (cVersionSS .v .v .v) gdVersionSS := open_sl (e := 1) (by kernel_rfl) (by kernel_rfl) (by decide) open_VersionS (fun _ => rfl)
theorem open_Store : OpenT Tryd.prog 31 (cStore .v .v .v) gdStore := by
  intro H enc w sp held n cs x hx
  obtain ⟨hl, hf⟩ := open_fields (l := [(29, 0, 1), (3, 1, 1)]) (by kernel_rfl) hx
  have hl : cs.length = 2 := hl.trans (by kernel_rfl)
  obtain ⟨n0, y0, z0⟩ := hf 0 _ rfl
  obtain ⟨a0, h0, g0⟩ := open_VersionSS enc w _ _ _ _ _ z0
  obtain ⟨n1, y1, z1⟩ := hf 1 _ rfl
  obtain ⟨a1, h1, g1⟩ := open_Int enc w _ _ _ _ _ z1
  exact ⟨⟨a0, a1⟩, (rel_cat (o := 0) h0 (rel_cat (o := 1) h1 (rel_end hl))), ⟨g0, g1⟩⟩
theorem open_Update : OpenT Tryd.prog 61 (cUpdate .v) gdUpdate := by
  intro H enc w sp held n cs x hx
  obtain ⟨hl, hf⟩ := open_fields (l := [(3, 0, 1), (59, 1, 2), (3, 3, 1), (3, 4, 1)]) (by kernel_rfl) hx
  have hl : cs.length = 5 := hl.trans (by kernel_rfl)
  obtain ⟨n0, y0, z0⟩ := hf 0 _ rfl
  obtain ⟨a0, h0, g0⟩ := open_Int enc w _ _ _ _ _ z0
  obtain ⟨n1, y1, z1⟩ := hf 1 _ rfl
  obtain ⟨a1, h1, g1⟩ := open_Row enc w _ _ _ _ _ z1
  obtain ⟨n2, y2, z2⟩ := hf 2 _ rfl
  obtain ⟨a2, h2, g2⟩ := open_Int enc w _ _ _ _ _ z2
  obtain ⟨n3, y3, z3⟩ := hf 3 _ rfl
  obtain ⟨a3, h3, g3⟩ := open_Int enc w _ _ _ _ _ z3
  exact ⟨⟨a0, a1, a2, a3⟩, (rel_cat (o := 0) h0 (rel_cat (o := 1) h1 (rel_cat (o := 3) h2 (rel_cat (o := 4) h3 (rel_end hl))))), ⟨g0, g1, g2, g3⟩⟩
theorem open_Event : OpenT Tryd.prog 63 (cEvent .v .v .v) gdEvent := by
  intro H enc w sp held n cs x hx
  obtain ⟨hl, hf⟩ := open_fields (l := [(3, 0, 1), (43, 1, 4), (3, 5, 1), (3, 6, 1), (61, 7, 5), (3, 12, 1)]) (by kernel_rfl) hx
  have hl : cs.length = 13 := hl.trans (by kernel_rfl)
  obtain ⟨n0, y0, z0⟩ := hf 0 _ rfl
  obtain ⟨a0, h0, g0⟩ := open_Int enc w _ _ _ _ _ z0
  obtain ⟨n1, y1, z1⟩ := hf 1 _ rfl
  obtain ⟨a1, h1, g1⟩ := open_Query enc w _ _ _ _ _ z1
  obtain ⟨n2, y2, z2⟩ := hf 2 _ rfl
  obtain ⟨a2, h2, g2⟩ := open_Int enc w _ _ _ _ _ z2
  obtain ⟨n3, y3, z3⟩ := hf 3 _ rfl
  obtain ⟨a3, h3, g3⟩ := open_Int enc w _ _ _ _ _ z3
  obtain ⟨n4, y4, z4⟩ := hf 4 _ rfl
  obtain ⟨a4, h4, g4⟩ := open_Update enc w _ _ _ _ _ z4
  obtain ⟨n5, y5, z5⟩ := hf 5 _ rfl
  obtain ⟨a5, h5, g5⟩ := open_Int enc w _ _ _ _ _ z5
  exact ⟨⟨a0, a1, a2, a3, a4, a5⟩, (rel_cat (o := 0) h0 (rel_cat (o := 1) h1 (rel_cat (o := 5) h2 (rel_cat (o := 6) h3 (rel_cat (o := 7) h4 (rel_cat (o := 12) h5 (rel_end hl))))))), ⟨g0, g1, g2, g3, g4, g5⟩⟩
end Go.Proofs.YtaomckpfgmhapaaDoor
