/- Definitions and their laws. No condition. -/
import Derived.Test.YtmkhofdkdklpdaaGreatCDcd
import Derived.Test.YtmkhofdkdklpdaaGreatCDi
set_option linter.unusedVariables false
set_option linter.unusedSimpArgs false
namespace Go.Proofs.YtmkhofdkdklpdaaGreat
open Go Go.RowKit M
set_option maxRecDepth 10000
theorem parts_wt (c : Cluster) : wtRowSS c.Parts ≤ wtCluster c := by unfold wtCluster; omega
theorem done_wt (c : Cluster) : c.Done.length ≤ wtCluster c := by unfold wtCluster; simp only [wtIntS_len]; omega
theorem step_good {c : Cluster} {n : Int} (h : isCl c = true) : isCl (stepNode c n).1 = true ∧ c.Done.length ≤ (stepNode c n).1.Done.length ∧ (stepNode c n).1.Done.length ≤ c.Done.length + 1 := by
  cases hu : upOk c n with
  | true => exact step_ok hu
  | false => rw [step_no hu]; exact ⟨h, Nat.le_refl _, Nat.le_succ _⟩
theorem fail_good {c : Cluster} {n : Int} (h : isCl c = true) : isCl (failNode c n).1 = true ∧ (failNode c n).1.Done = c.Done ∧ cluRows (failNode c n).1 = cluRows c := by
  cases hu : upOk c n with
  | true =>
    have h1 := fail_ok hu
    have hr : (failNode c n).1.Rows = c.Rows := by rw [fail_yes hu]; rfl
    exact ⟨h1, (failNode_parts c n).2.2, by unfold cluRows; rw [h1, h, hr]⟩
  | false => rw [fail_no hu]; exact ⟨h, rfl, rfl⟩

end Go.Proofs.YtmkhofdkdklpdaaGreat
