/- What arguments read as. No condition. -/
import Derived.Test.YtloipjaiceifbaaCDb
set_option linter.unusedVariables false
set_option linter.unusedSimpArgs false
namespace Go.Proofs.Ytloipjaiceifbaa
open Go Go.RowKit M
set_option maxRecDepth 10000
theorem open_Int : OpenT Try.prog 3 cInt gdInt := open_i Try.underlying3
theorem open_IntS : OpenT Try.prog 38 (cIntS .v) gdIntS := open_sl (e := 1) (by kernel_rfl) (by kernel_rfl) (by decide) open_Int (fun _ => rfl)
theorem open_Row : OpenT Try.prog 82 (cRow .v) gdRow := by
  intro H enc w sp held n cs x hx
  obtain ⟨hl, hf⟩ := open_fields (l := [(3, 0, 1), (38, 1, 1)]) (by kernel_rfl) hx
  have hl : cs.length = 2 := hl.trans (by kernel_rfl)
  obtain ⟨n0, y0, z0⟩ := hf 0 _ rfl
  obtain ⟨a0, h0, g0⟩ := open_Int enc w _ _ _ _ _ z0
  obtain ⟨n1, y1, z1⟩ := hf 1 _ rfl
  obtain ⟨a1, h1, g1⟩ := open_IntS enc w _ _ _ _ _ z1
  exact ⟨⟨a0, a1⟩, (rel_cat (o := 0) h0 (rel_cat (o := 1) h1 (rel_end hl))), ⟨g0, g1⟩⟩
theorem open_Annotated : OpenT Try.prog 84 (cAnnotated .v .v) gdAnnotated := by
  intro H enc w sp held n cs x hx
  obtain ⟨hl, hf⟩ := open_fields (l := [(82, 0, 2), (38, 2, 1)]) (by kernel_rfl) hx
  have hl : cs.length = 3 := hl.trans (by kernel_rfl)
  obtain ⟨n0, y0, z0⟩ := hf 0 _ rfl
  obtain ⟨a0, h0, g0⟩ := open_Row enc w _ _ _ _ _ z0
  obtain ⟨n1, y1, z1⟩ := hf 1 _ rfl
  obtain ⟨a1, h1, g1⟩ := open_IntS enc w _ _ _ _ _ z1
  exact ⟨⟨a0, a1⟩, (rel_cat (o := 0) h0 (rel_cat (o := 2) h1 (rel_end hl))), ⟨g0, g1⟩⟩
theorem open_AnnotatedS : OpenT Try.prog 22 (cAnnotatedS .v .v .v) gdAnnotatedS := open_sl (e := 3) (by kernel_rfl) (by kernel_rfl) (by decide) open_Annotated (fun _ => rfl)
theorem open_RowS : OpenT Try.prog 30 (cRowS .v .v) gdRowS := open_sl (e := 2) (by kernel_rfl) (by kernel_rfl) (by decide) open_Row (fun _ => rfl)
end Go.Proofs.Ytloipjaiceifbaa
