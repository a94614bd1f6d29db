/- Definitions and their laws. No condition. -/
import Derived.Test.YtmkhofdkdklpdaaGreatCDo
import Derived.Test.YtmkhofdkdklpdaaGreatCDsI
set_option linter.unusedVariables false
set_option linter.unusedSimpArgs false
namespace Go.Proofs.YtmkhofdkdklpdaaGreat
open Go Go.RowKit M
set_option maxRecDepth 10000
def rowOf (l : List Row) (n : Int) : Row := l.getD n.toNat ⟨0, []⟩
theorem rowOf_eq {l : List Row} {n : Int} (h : n.toNat < l.length) : l[n.toNat] = rowOf l n := gDt h
def setAt (c : Cluster) (n : Int) (v : Int) : Cluster := { c with At := c.At.set n.toNat v }
def stepRow (c : Cluster) (n : Int) : Cluster := { c with Buffer := if matchRow c.Query (rowOf (partAt c (atI c.At n)) (atI c.Pos n)) = true then c.Buffer.set n.toNat (bufAt c n ++ [rowOf (partAt c (atI c.At n)) (atI c.Pos n)]) else c.Buffer, Pos := c.Pos.set n.toNat (atI c.Pos n + 1) }
def endC (c : Cluster) (n : Int) : Cluster := { c with Rows := c.Rows.set (atI c.At n).toNat (bufAt c n), Done := insP (atI c.At n) c.Done }
noncomputable def stepNode (c : Cluster) (n : Int) : Cluster × Bool :=
  if upOk c n = true then
    if atI c.At n = -1 then (setAt c n (nextSeg c n), nextSeg c n != -1)
    else if (atI c.Pos n) < (partAt c (atI c.At n)).length then (stepRow c n, true) else (stopAt (endC c n) n, true)
  else (c, false)
theorem step_no {c : Cluster} {n : Int} (h : upOk c n = false) : stepNode c n = (c, false) := if_neg (by rw [h]; simp)
theorem step_at {c : Cluster} {n : Int} (h : upOk c n = true) (h2 : atI c.At n = -1) : stepNode c n = (setAt c n (nextSeg c n), nextSeg c n != -1) := by unfold stepNode; rw [if_pos h, if_pos h2]
theorem step_row {c : Cluster} {n : Int} (h : upOk c n = true) (h2 : ¬ atI c.At n = -1) (h3 : (atI c.Pos n) < (partAt c (atI c.At n)).length) : stepNode c n = (stepRow c n, true) := by unfold stepNode; rw [if_pos h, if_neg h2, if_pos h3]
theorem step_end {c : Cluster} {n : Int} (h : upOk c n = true) (h2 : ¬ atI c.At n = -1) (h3 : ¬ (atI c.Pos n) < (partAt c (atI c.At n)).length) : stepNode c n = (stopAt (endC c n) n, true) := by unfold stepNode; rw [if_pos h, if_neg h2, if_neg h3]
theorem row_yes {c : Cluster} {n : Int} (h : matchRow c.Query (rowOf (partAt c (atI c.At n)) (atI c.Pos n)) = true) : stepRow c n = { c with Buffer := c.Buffer.set n.toNat (bufAt c n ++ [rowOf (partAt c (atI c.At n)) (atI c.Pos n)]), Pos := c.Pos.set n.toNat (atI c.Pos n + 1) } := by unfold stepRow; rw [if_pos h]
theorem row_no {c : Cluster} {n : Int} (h : ¬ matchRow c.Query (rowOf (partAt c (atI c.At n)) (atI c.Pos n)) = true) : stepRow c n = { c with Pos := c.Pos.set n.toNat (atI c.Pos n + 1) } := by unfold stepRow; rw [if_neg h]
theorem done_asc {c : Cluster} (h : isCl c = true) : asc c.Done := fun i hi => by
  have h1 := (isCl_iff.1 h).2.1
  have h2 := List.all_eq_true.1 h1 (i + 1) (List.mem_range.2 hi)
  have h3 := (adjStep.1 h2).2
  rcases h3 with h3 | h3
  · omega
  · rw [Nat.add_sub_cancel, getD_at (by omega), getD_at hi] at h3
    simpa [ltI] using h3
theorem done_in {c : Cluster} (h : isCl c = true) : ∀ i : Nat, (hi : i < c.Done.length) → 0 ≤ c.Done[i] ∧ c.Done[i] < c.Parts.length := fun i hi => by
  have h1 := (isCl_iff.1 h).2.1
  have h2 := List.all_eq_true.1 h1 i (List.mem_range.2 hi)
  have h3 := (adjStep.1 h2).1
  rw [getD_at hi] at h3
  have := inB_iff.1 h3
  omega
theorem asc_ge {l : List Int} (h : asc l) (h0 : ∀ i : Nat, (hi : i < l.length) → 0 ≤ l[i]) : ∀ {i : Nat} (hi : i < l.length), (i : Int) ≤ l[i]
  | 0, hi => h0 0 hi
  | i + 1, hi => by
    have h1 := asc_ge h h0 (i := i) (by omega)
    have h2 := h i hi
    omega
theorem done_len {c : Cluster} (h : isCl c = true) : c.Done.length ≤ c.Parts.length := by
  by_cases e : c.Done.length = 0
  · omega
  · have h1 := asc_ge (done_asc h) (fun i hi => (done_in h i hi).1) (i := c.Done.length - 1) (by omega)
    have h2 := (done_in h (c.Done.length - 1) (by omega)).2
    omega
theorem node_at {c : Cluster} {n : Int} (h1 : isCl c = true) (hn : 0 ≤ n ∧ n.toNat < c.Up.length) (h2 : ¬ atI c.At n = -1) : (0 ≤ atI c.At n ∧ (atI c.At n).toNat < c.Parts.length ∧ (atI c.At n).toNat < c.Rows.length ∧ atI c.At n ≤ 8) ∧ (0 ≤ atI c.Pos n ∧ (atI c.Pos n).toNat ≤ (partAt c (atI c.At n)).length) ∧ atI c.At n ∉ c.Done := by
  have h3 := (isCl_iff.1 h1).2.2.2 n.toNat hn.2
  rw [Int.toNat_of_nonneg hn.1] at h3
  unfold nodeI nodeB at h3
  rw [if_neg h2] at h3
  simp only [Bool.and_eq_true] at h3
  obtain ⟨⟨k1, k2, k3, k4, k5, k6⟩, _⟩ := h3
  have j1 := inB_iff.1 k1
  have j5 := inB_iff.1 k5
  have hl := clLen h1
  refine ⟨by omega, by omega, ?_⟩
  rw [← hasI_no]
  simpa using k3
theorem part_le {c : Cluster} {s : Int} : wtRowS (partAt c s) ≤ wtRowSS c.Parts := by
  unfold partAt
  by_cases h : s.toNat < c.Parts.length
  · have := wt_mem (f := wtRowS) h
    rw [← gDt h]; unfold wtRowSS; omega
  · rw [List.getD_eq_getElem?_getD, List.getElem?_eq_none (by omega)]; simp [wtRowS]
theorem buf_le {c : Cluster} {s : Int} : wtRowS (bufAt c s) ≤ wtRowSS c.Buffer := by
  unfold bufAt
  by_cases h : s.toNat < c.Buffer.length
  · have := wt_mem (f := wtRowS) h
    rw [← gDt h]; unfold wtRowSS; omega
  · rw [List.getD_eq_getElem?_getD, List.getElem?_eq_none (by omega)]; simp [wtRowS]
theorem row_le {l : List Row} {k : Int} : wtRow (rowOf l k) ≤ wtRowS l := by
  unfold rowOf
  by_cases h : k.toNat < l.length
  · have := wt_mem (f := wtRow) h
    rw [← gDt h]; unfold wtRowS; omega
  · rw [List.getD_eq_getElem?_getD, List.getElem?_eq_none (by omega)]; simp [wtRow, wtIntS_len, wtInt]
theorem ss_set {l : List (List Row)} {i : Nat} {x : List Row} : wtRowSS (l.set i x) ≤ wtRowSS l + wtRowS x := by
  have := sum_set (f := wtRowS) l i x
  unfold wtRowSS; rw [List.length_set]; omega
theorem setAt_wt (c : Cluster) (n v : Int) : wtCluster (setAt c n v) = wtCluster c := by
  unfold setAt wtCluster; simp only [wtIntS_len, List.length_set]
end Go.Proofs.YtmkhofdkdklpdaaGreat
