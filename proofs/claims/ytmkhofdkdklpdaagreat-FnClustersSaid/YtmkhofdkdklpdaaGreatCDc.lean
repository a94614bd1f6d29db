/- Definitions and their laws. No condition. -/
import Derived.Test.YtmkhofdkdklpdaaGreatCDa
set_option linter.unusedVariables false
set_option linter.unusedSimpArgs false
namespace Go.Proofs.YtmkhofdkdklpdaaGreat
open Go Go.RowKit M
set_option maxRecDepth 10000
def rowsAt (c : Cluster) (s : Int) : List Row := c.Rows.getD s.toNat []
theorem partN {c : Cluster} {k : Nat} (h : k < c.Parts.length) : c.Parts[k] = partAt c (k : Int) := gDt h
theorem rowsN {c : Cluster} {k : Nat} (h : k < c.Rows.length) : c.Rows[k] = rowsAt c (k : Int) := gDt h
theorem atN {l : List Int} {k : Nat} (h : k < l.length) : l[k] = atI l (k : Int) := gDt h
noncomputable def rowOk (c : Cluster) (s : Int) : Bool := deq (rowsAt c s) (if hasI c.Done s = true then found c.Query (partAt c s) else [])
def doneP (c : Cluster) (s : Int) : Bool := inB s 0 ((c.Parts.length : Int) - 1)
def ltI (a b : Int) : Bool := decide (a < b)
def headB (c : Cluster) : Prop := (okQuery c.Query = true ∧ okParts c.Parts = true ∧ inB (c.Up.length : Int) 2 4 = true) ∧ c.At.length = c.Up.length ∧ c.Pos.length = c.Up.length ∧ c.Buffer.length = c.Up.length ∧ c.Rows.length = c.Parts.length
def isClP (c : Cluster) : Prop := headB c ∧ adjAll 0 (doneP c) ltI c.Done = true ∧ (∀ i : Nat, i < c.Parts.length → rowOk c (i : Int) = true) ∧ ∀ i : Nat, i < c.Up.length → nodeI c (i : Int) = true
noncomputable def isCl (c : Cluster) : Bool := @decide (isClP c) (Classical.propDecidable _)
theorem isCl_iff {c : Cluster} : isCl c = true ↔ isClP c := @decide_eq_true_iff _ (Classical.propDecidable _)
theorem isCl_no {c : Cluster} (h : ¬ isClP c) : isCl c = false := by rw [← Bool.not_eq_true, isCl_iff]; exact h
theorem isCl_head {c : Cluster} (h : ¬ headB c) : isCl c = false := isCl_no fun x => h x.1
theorem isCl_done {c : Cluster} (h : adjAll 0 (doneP c) ltI c.Done = false) : isCl c = false := isCl_no fun x => by rw [x.2.1] at h; cases h
theorem isCl_row {c : Cluster} {i : Nat} (hi : i < c.Parts.length) (h : rowOk c (i : Int) = false) : isCl c = false := isCl_no fun x => by rw [x.2.2.1 i hi] at h; cases h
theorem isCl_node {c : Cluster} {i : Nat} (hi : i < c.Up.length) (h : nodeI c (i : Int) = false) : isCl c = false := isCl_no fun x => by rw [x.2.2.2 i hi] at h; cases h
theorem lone_yes {c : Cluster} {k : Nat} (h : ∀ i : Nat, i < k → ¬ (atI c.At (k : Int) ≠ -1 ∧ atI c.At (k : Int) = atI c.At (i : Int))) : loneB c (k : Int) = true := by
  unfold loneB
  by_cases e : atI c.At (k : Int) = -1
  · simp [e]
  · rw [Int.toNat_natCast]
    have : hasI (c.At.take k) (atI c.At (k : Int)) = false := hasI_no.2 fun hm => by
      obtain ⟨i, hi, hx⟩ := List.mem_iff_getElem.1 hm
      rw [List.length_take] at hi
      rw [List.getElem_take, atN (by omega)] at hx
      exact h i (by omega) ⟨e, hx.symm⟩
    rw [this]; simp
theorem lone_no {c : Cluster} {k j : Nat} (hj : j < k) (hk : k < c.At.length) (h1 : atI c.At (k : Int) ≠ -1) (h2 : atI c.At (k : Int) = atI c.At (j : Int)) : nodeI c (k : Int) = false := by
  unfold nodeI loneB
  have : hasI (c.At.take k) (atI c.At (k : Int)) = true := hasI_iff.2 (by
    rw [h2, ← atN (by omega)]
    exact List.mem_iff_getElem.2 ⟨j, by rw [List.length_take]; omega, List.getElem_take⟩)
  rw [Int.toNat_natCast, this]; simp [h1]
end Go.Proofs.YtmkhofdkdklpdaaGreat
