/- Definitions and their laws. No condition. -/
import Derived.Test.YtmkhofdkdklpdaaGreatCDs
import Derived.Test.YtmkhofdkdklpdaaGreatCDc
set_option linter.unusedVariables false
set_option linter.unusedSimpArgs false
namespace Go.Proofs.YtmkhofdkdklpdaaGreat
open Go Go.RowKit M
set_option maxRecDepth 10000
noncomputable def cluRows (c : Cluster) : List Row := if isCl c then isort (lessQ cmpRow) c.Rows.flatten else []
theorem cluRows_ok {c : Cluster} (h : isCl c = true) : cluRows c = isort (lessQ cmpRow) c.Rows.flatten := if_pos h
theorem cluRows_no {c : Cluster} (h : isCl c = false) : cluRows c = [] := if_neg (by rw [h]; simp)
theorem flat_succ {l : List (List Row)} {k : Nat} (h : k < l.length) : (l.take (k + 1)).flatten = (l.take k).flatten ++ l[k] := by
  rw [List.take_succ_eq_append_getElem h, List.flatten_append]; simp
theorem flat_wt : ∀ l : List (List Row), wtRowS l.flatten ≤ wtRowSS l
  | [] => Nat.le_refl _
  | x :: l => by
    have h := flat_wt l
    unfold wtRowS wtRowSS at h ⊢
    simp only [List.flatten_cons, List.length_append, List.map_append, List.sum_append, List.map_cons, List.sum_cons, List.length_cons]
    have e : wtRowS x = x.length + (x.map wtRow).sum := rfl
    omega
theorem flat_twt (l : List (List Row)) (k : Nat) : wtRowS (l.take k).flatten ≤ wtRowSS l := by
  have h1 := flat_wt (l.take k)
  have h2 := wtk_le (f := wtRowS) l k
  unfold wtRowSS at h1 ⊢
  rw [List.length_take] at h1
  omega
end Go.Proofs.YtmkhofdkdklpdaaGreat
