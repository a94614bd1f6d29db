/- Definitions and their laws. No condition. -/
import Derived.Test.YteflgldonmgejaaGreatCDi
set_option linter.unusedVariables false
set_option linter.unusedSimpArgs false
namespace Go.Proofs.YteflgldonmgejaaGreat
open Go Go.RowKit M
set_option maxRecDepth 10000
theorem okQs_wt {l : List Query} (h : okQueries l = true) : wtQueryS l ≤ 1000 := by
 have h1 := okQs h
 have h2 : ∀ q ∈ l, wtQuery q ≤ 10 := fun q hq => by
  have := query_wt (h1.2 q hq)
  have hc : ∀ c : List Cond, (c.map wtCond).sum = 0 := by
   intro c
   induction c with
   | nil => rfl
   | cons a c ih => rw [List.map_cons, List.sum_cons, ih]; rfl
  unfold wtQuery wtCondS
  simp only [wtIntS_len, wtInt, hc]
  omega
 have h3 : (l.map wtQuery).sum ≤ l.length * 10 := by
  clear h h1
  induction l with
  | nil => simp
  | cons q l ih =>
   have a := h2 q (by simp)
   have b := ih fun x hx => h2 x (by simp [hx])
   simp only [List.map_cons, List.sum_cons, List.length_cons, Nat.succ_mul]; omega
 unfold wtQueryS
 have : l.length * 10 ≤ 24 * 10 := Nat.mul_le_mul h1.1 (Nat.le_refl _)
 omega
theorem fieldsTo_succ {l : List Query} {k : Nat} : fieldsTo l (k + 1) = fieldsTo l k ++ [stabIdx l (k : Int)] := by unfold fieldsTo; rw [List.range_succ, List.map_append]; rfl
theorem fieldsTo_len {l : List Query} {k : Nat} : (fieldsTo l k).length = k := by unfold fieldsTo; rw [List.length_map, List.length_range]
theorem build_yes {l : List Query} (h : okQueries l = true) : buildIdx l = ⟨l, fieldsTo l 3⟩ := by unfold buildIdx; rw [if_pos h]; rfl
theorem build_no {l : List Query} (h : okQueries l = false) : buildIdx l = ⟨[], []⟩ := by unfold buildIdx; rw [if_neg (by rw [h]; simp)]
end Go.Proofs.YteflgldonmgejaaGreat
