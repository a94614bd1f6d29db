/- What arguments read as. No condition. -/
import Derived.Test.YteflgldonmgejaaGreatCDb
set_option linter.unusedVariables false
set_option linter.unusedSimpArgs false
namespace Go.Proofs.YteflgldonmgejaaGreat
open Go Go.RowKit M
set_option maxRecDepth 10000
theorem open_Int : OpenT Tryz.prog 3 cInt gdInt := open_i Tryz.underlying3
theorem open_IntS : OpenT Tryz.prog 25 (cIntS .v) gdIntS := open_sl (e := 1) (by kernel_rfl) (by kernel_rfl) (by decide) open_Int (fun _ => rfl)
theorem open_Version : OpenT Tryz.prog 231 (cVersion .v) gdVersion := by
 intro H enc w sp held n cs x hx
 obtain ⟨hl, hf⟩ := open_fields (l := [(3, 0, 1), (25, 1, 1), (3, 2, 1), (3, 3, 1)]) (by kernel_rfl) hx
 have hl : cs.length = 4 := hl.trans (by kernel_rfl)
 obtain ⟨n0, y0, z0⟩ := hf 0 _ rfl
 obtain ⟨a0, h0, g0⟩ := open_Int enc w _ _ _ _ _ z0
 obtain ⟨n1, y1, z1⟩ := hf 1 _ rfl
 obtain ⟨a1, h1, g1⟩ := open_IntS enc w _ _ _ _ _ z1
 obtain ⟨n2, y2, z2⟩ := hf 2 _ rfl
 obtain ⟨a2, h2, g2⟩ := open_Int enc w _ _ _ _ _ z2
 obtain ⟨n3, y3, z3⟩ := hf 3 _ rfl
 obtain ⟨a3, h3, g3⟩ := open_Int enc w _ _ _ _ _ z3
 exact ⟨⟨a0, a1, a2, a3⟩, (rel_cat (o := 0) h0 (rel_cat (o := 1) h1 (rel_cat (o := 2) h2 (rel_cat (o := 3) h3 (rel_end hl))))), ⟨g0, g1, g2, g3⟩⟩
theorem open_VersionS : OpenT Tryz.prog 195 (cVersionS .v .v) gdVersionS := open_sl (e := 4) (by kernel_rfl) (by kernel_rfl) (by decide) open_Version (fun _ => rfl)
theorem open_VersionSS : OpenT Tryz.prog 22 (cVersionSS .v .v .v) gdVersionSS := open_sl (e := 1) (by kernel_rfl) (by kernel_rfl) (by decide) open_VersionS (fun _ => rfl)
theorem open_Store : OpenT Tryz.prog 24 (cStore .v .v .v) gdStore := by
 intro H enc w sp held n cs x hx
 obtain ⟨hl, hf⟩ := open_fields (l := [(22, 0, 1), (3, 1, 1)]) (by kernel_rfl) hx
 have hl : cs.length = 2 := hl.trans (by kernel_rfl)
 obtain ⟨n0, y0, z0⟩ := hf 0 _ rfl
 obtain ⟨a0, h0, g0⟩ := open_VersionSS enc w _ _ _ _ _ z0
 obtain ⟨n1, y1, z1⟩ := hf 1 _ rfl
 obtain ⟨a1, h1, g1⟩ := open_Int enc w _ _ _ _ _ z1
 exact ⟨⟨a0, a1⟩, (rel_cat (o := 0) h0 (rel_cat (o := 1) h1 (rel_end hl))), ⟨g0, g1⟩⟩
theorem open_Cond : OpenT Tryz.prog 228 cCond gdCond := by
 intro H enc w sp held n cs x hx
 obtain ⟨hl, hf⟩ := open_fields (l := [(3, 0, 1), (3, 1, 1), (3, 2, 1)]) (by kernel_rfl) hx
 have hl : cs.length = 3 := hl.trans (by kernel_rfl)
 obtain ⟨n0, y0, z0⟩ := hf 0 _ rfl
 obtain ⟨a0, h0, g0⟩ := open_Int enc w _ _ _ _ _ z0
 obtain ⟨n1, y1, z1⟩ := hf 1 _ rfl
 obtain ⟨a1, h1, g1⟩ := open_Int enc w _ _ _ _ _ z1
 obtain ⟨n2, y2, z2⟩ := hf 2 _ rfl
 obtain ⟨a2, h2, g2⟩ := open_Int enc w _ _ _ _ _ z2
 exact ⟨⟨a0, a1, a2⟩, (rel_cat (o := 0) h0 (rel_cat (o := 1) h1 (rel_cat (o := 2) h2 (rel_end hl)))), ⟨g0, g1, g2⟩⟩
theorem open_CondS : OpenT Tryz.prog 51 (cCondS .v) gdCondS := open_sl (e := 3) (by kernel_rfl) (by kernel_rfl) (by decide) open_Cond (fun _ => rfl)
theorem open_Query : OpenT Tryz.prog 53 (cQuery .v .v) gdQuery := by
 intro H enc w sp held n cs x hx
 obtain ⟨hl, hf⟩ := open_fields (l := [(3, 0, 1), (3, 1, 1), (51, 2, 1), (25, 3, 1)]) (by kernel_rfl) hx
 have hl : cs.length = 4 := hl.trans (by kernel_rfl)
 obtain ⟨n0, y0, z0⟩ := hf 0 _ rfl
 obtain ⟨a0, h0, g0⟩ := open_Int enc w _ _ _ _ _ z0
 obtain ⟨n1, y1, z1⟩ := hf 1 _ rfl
 obtain ⟨a1, h1, g1⟩ := open_Int enc w _ _ _ _ _ z1
 obtain ⟨n2, y2, z2⟩ := hf 2 _ rfl
 obtain ⟨a2, h2, g2⟩ := open_CondS enc w _ _ _ _ _ z2
 obtain ⟨n3, y3, z3⟩ := hf 3 _ rfl
 obtain ⟨a3, h3, g3⟩ := open_IntS enc w _ _ _ _ _ z3
 exact ⟨⟨a0, a1, a2, a3⟩, (rel_cat (o := 0) h0 (rel_cat (o := 1) h1 (rel_cat (o := 2) h2 (rel_cat (o := 3) h3 (rel_end hl))))), ⟨g0, g1, g2, g3⟩⟩
theorem open_Row : OpenT Tryz.prog 55 (cRow .v) gdRow := by
 intro H enc w sp held n cs x hx
 obtain ⟨hl, hf⟩ := open_fields (l := [(3, 0, 1), (25, 1, 1)]) (by kernel_rfl) hx
 have hl : cs.length = 2 := hl.trans (by kernel_rfl)
 obtain ⟨n0, y0, z0⟩ := hf 0 _ rfl
 obtain ⟨a0, h0, g0⟩ := open_Int enc w _ _ _ _ _ z0
 obtain ⟨n1, y1, z1⟩ := hf 1 _ rfl
 obtain ⟨a1, h1, g1⟩ := open_IntS enc w _ _ _ _ _ z1
 exact ⟨⟨a0, a1⟩, (rel_cat (o := 0) h0 (rel_cat (o := 1) h1 (rel_end hl))), ⟨g0, g1⟩⟩
theorem open_RowS : OpenT Tryz.prog 128 (cRowS .v .v) gdRowS := open_sl (e := 2) (by kernel_rfl) (by kernel_rfl) (by decide) open_Row (fun _ => rfl)
theorem open_Active : OpenT Tryz.prog 130 (cActive .v .v .v .v .v) gdActive := by
 intro H enc w sp held n cs x hx
 obtain ⟨hl, hf⟩ := open_fields (l := [(53, 0, 4), (3, 4, 1), (25, 5, 1), (3, 6, 1), (3, 7, 1), (3, 8, 1), (128, 9, 1)]) (by kernel_rfl) hx
 have hl : cs.length = 10 := hl.trans (by kernel_rfl)
 obtain ⟨n0, y0, z0⟩ := hf 0 _ rfl
 obtain ⟨a0, h0, g0⟩ := open_Query enc w _ _ _ _ _ z0
 obtain ⟨n1, y1, z1⟩ := hf 1 _ rfl
 obtain ⟨a1, h1, g1⟩ := open_Int enc w _ _ _ _ _ z1
 obtain ⟨n2, y2, z2⟩ := hf 2 _ rfl
 obtain ⟨a2, h2, g2⟩ := open_IntS enc w _ _ _ _ _ z2
 obtain ⟨n3, y3, z3⟩ := hf 3 _ rfl
 obtain ⟨a3, h3, g3⟩ := open_Int enc w _ _ _ _ _ z3
 obtain ⟨n4, y4, z4⟩ := hf 4 _ rfl
 obtain ⟨a4, h4, g4⟩ := open_Int enc w _ _ _ _ _ z4
 obtain ⟨n5, y5, z5⟩ := hf 5 _ rfl
 obtain ⟨a5, h5, g5⟩ := open_Int enc w _ _ _ _ _ z5
 obtain ⟨n6, y6, z6⟩ := hf 6 _ rfl
 obtain ⟨a6, h6, g6⟩ := open_RowS enc w _ _ _ _ _ z6
 exact ⟨⟨a0, a1, a2, a3, a4, a5, a6⟩, (rel_cat (o := 0) h0 (rel_cat (o := 4) h1 (rel_cat (o := 5) h2 (rel_cat (o := 6) h3 (rel_cat (o := 7) h4 (rel_cat (o := 8) h5 (rel_cat (o := 9) h6 (rel_end hl)))))))), ⟨g0, g1, g2, g3, g4, g5, g6⟩⟩
theorem open_ActiveS : OpenT Tryz.prog 26 (cActiveS .v .v .v .v .v .v) gdActiveS := open_sl (e := 10) (by kernel_rfl) (by kernel_rfl) (by decide) open_Active (fun _ => rfl)
theorem open_Finished : OpenT Tryz.prog 133 (cFinished .v .v .v .v) gdFinished := by
 intro H enc w sp held n cs x hx
 obtain ⟨hl, hf⟩ := open_fields (l := [(53, 0, 4), (3, 4, 1), (3, 5, 1), (128, 6, 1)]) (by kernel_rfl) hx
 have hl : cs.length = 7 := hl.trans (by kernel_rfl)
 obtain ⟨n0, y0, z0⟩ := hf 0 _ rfl
 obtain ⟨a0, h0, g0⟩ := open_Query enc w _ _ _ _ _ z0
 obtain ⟨n1, y1, z1⟩ := hf 1 _ rfl
 obtain ⟨a1, h1, g1⟩ := open_Int enc w _ _ _ _ _ z1
 obtain ⟨n2, y2, z2⟩ := hf 2 _ rfl
 obtain ⟨a2, h2, g2⟩ := open_Int enc w _ _ _ _ _ z2
 obtain ⟨n3, y3, z3⟩ := hf 3 _ rfl
 obtain ⟨a3, h3, g3⟩ := open_RowS enc w _ _ _ _ _ z3
 exact ⟨⟨a0, a1, a2, a3⟩, (rel_cat (o := 0) h0 (rel_cat (o := 4) h1 (rel_cat (o := 5) h2 (rel_cat (o := 6) h3 (rel_end hl))))), ⟨g0, g1, g2, g3⟩⟩
theorem open_FinishedS : OpenT Tryz.prog 27 (cFinishedS .v .v .v .v .v) gdFinishedS := open_sl (e := 7) (by kernel_rfl) (by kernel_rfl) (by decide) open_Finished (fun _ => rfl)
theorem open_Charge : OpenT Tryz.prog 136 (cCharge .v .v .v) gdCharge := by
 intro H enc w sp held n cs x hx
 obtain ⟨hl, hf⟩ := open_fields (l := [(3, 0, 1), (3, 1, 1), (25, 2, 1), (25, 3, 1), (25, 4, 1)]) (by kernel_rfl) hx
 have hl : cs.length = 5 := hl.trans (by kernel_rfl)
 obtain ⟨n0, y0, z0⟩ := hf 0 _ rfl
 obtain ⟨a0, h0, g0⟩ := open_Int enc w _ _ _ _ _ z0
 obtain ⟨n1, y1, z1⟩ := hf 1 _ rfl
 obtain ⟨a1, h1, g1⟩ := open_Int enc w _ _ _ _ _ z1
 obtain ⟨n2, y2, z2⟩ := hf 2 _ rfl
 obtain ⟨a2, h2, g2⟩ := open_IntS enc w _ _ _ _ _ z2
 obtain ⟨n3, y3, z3⟩ := hf 3 _ rfl
 obtain ⟨a3, h3, g3⟩ := open_IntS enc w _ _ _ _ _ z3
 obtain ⟨n4, y4, z4⟩ := hf 4 _ rfl
 obtain ⟨a4, h4, g4⟩ := open_IntS enc w _ _ _ _ _ z4
 exact ⟨⟨a0, a1, a2, a3, a4⟩, (rel_cat (o := 0) h0 (rel_cat (o := 1) h1 (rel_cat (o := 2) h2 (rel_cat (o := 3) h3 (rel_cat (o := 4) h4 (rel_end hl)))))), ⟨g0, g1, g2, g3, g4⟩⟩
theorem open_ChargeS : OpenT Tryz.prog 28 (cChargeS .v .v .v .v) gdChargeS := open_sl (e := 5) (by kernel_rfl) (by kernel_rfl) (by decide) open_Charge (fun _ => rfl)
theorem open_Engine : OpenT Tryz.prog 30 (cEngine .v .v .v .v .v .v .v .v .v .v .v .v .v .v .v .v .v .v .v) gdEngine := by
 intro H enc w sp held n cs x hx
 obtain ⟨hl, hf⟩ := open_fields (l := [(24, 0, 2), (3, 2, 1), (25, 3, 1), (26, 4, 1), (27, 5, 1), (28, 6, 1), (3, 7, 1)]) (by kernel_rfl) hx
 have hl : cs.length = 8 := hl.trans (by kernel_rfl)
 obtain ⟨n0, y0, z0⟩ := hf 0 _ rfl
 obtain ⟨a0, h0, g0⟩ := open_Store enc w _ _ _ _ _ z0
 obtain ⟨n1, y1, z1⟩ := hf 1 _ rfl
 obtain ⟨a1, h1, g1⟩ := open_Int enc w _ _ _ _ _ z1
 obtain ⟨n2, y2, z2⟩ := hf 2 _ rfl
 obtain ⟨a2, h2, g2⟩ := open_IntS enc w _ _ _ _ _ z2
 obtain ⟨n3, y3, z3⟩ := hf 3 _ rfl
 obtain ⟨a3, h3, g3⟩ := open_ActiveS enc w _ _ _ _ _ z3
 obtain ⟨n4, y4, z4⟩ := hf 4 _ rfl
 obtain ⟨a4, h4, g4⟩ := open_FinishedS enc w _ _ _ _ _ z4
 obtain ⟨n5, y5, z5⟩ := hf 5 _ rfl
 obtain ⟨a5, h5, g5⟩ := open_ChargeS enc w _ _ _ _ _ z5
 obtain ⟨n6, y6, z6⟩ := hf 6 _ rfl
 obtain ⟨a6, h6, g6⟩ := open_Int enc w _ _ _ _ _ z6
 exact ⟨⟨a0, a1, a2, a3, a4, a5, a6⟩, (rel_cat (o := 0) h0 (rel_cat (o := 2) h1 (rel_cat (o := 3) h2 (rel_cat (o := 4) h3 (rel_cat (o := 5) h4 (rel_cat (o := 6) h5 (rel_cat (o := 7) h6 (rel_end hl)))))))), ⟨g0, g1, g2, g3, g4, g5, g6⟩⟩
end Go.Proofs.YteflgldonmgejaaGreat
