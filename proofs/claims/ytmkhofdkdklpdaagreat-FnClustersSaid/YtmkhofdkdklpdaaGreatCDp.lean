/- Definitions and their laws. No condition. -/
import Derived.Test.YtmkhofdkdklpdaaGreatCDo
set_option linter.unusedVariables false
set_option linter.unusedSimpArgs false
namespace Go.Proofs.YtmkhofdkdklpdaaGreat
open Go Go.RowKit M
set_option maxRecDepth 10000
def newCl (q : Query) (l : List (List Row)) (n : Int) : Cluster := ⟨q, l, List.replicate n.toNat true, List.replicate n.toNat (-1), List.replicate n.toNat 0, List.replicate n.toNat [], [], List.replicate l.length []⟩
noncomputable def newCluster (q : Query) (l : List (List Row)) (n : Int) : Cluster × Bool := if okQuery q && (okParts l && inB n 2 4) then (newCl q l n, true) else (⟨⟨0, 0, [], []⟩, [], [], [], [], [], [], []⟩, false)
theorem new_yes {q : Query} {l : List (List Row)} {n : Int} (h : (okQuery q && (okParts l && inB n 2 4)) = true) : newCluster q l n = (newCl q l n, true) := if_pos h
theorem new_no {q : Query} {l : List (List Row)} {n : Int} (h : (okQuery q && (okParts l && inB n 2 4)) = false) : newCluster q l n = (⟨⟨0, 0, [], []⟩, [], [], [], [], [], [], []⟩, false) := if_neg (by rw [h]; simp)
theorem new_in {q : Query} {l : List (List Row)} {n : Int} (h : (okQuery q && (okParts l && inB n 2 4)) = true) : (2 ≤ n ∧ n ≤ 4) ∧ l.length ≤ 8 := by
  simp only [Bool.and_eq_true] at h
  have h1 := inB_iff.1 h.2.2
  have h2 := inB_iff.1 (okParts_iff.1 h.2.1).1
  omega
theorem newCluster_wt (q : Query) (l : List (List Row)) (n : Int) : wtCluster (newCluster q l n).1 ≤ wtQuery q + wtRowSS l + 100 := by
  have hr : ∀ m : Nat, ((List.replicate m ([] : List Row)).map wtRowS).sum = 0 := by
    intro m; induction m with
    | zero => rfl
    | succ m ih => rw [List.replicate_succ, List.map_cons, List.sum_cons, ih]; rfl
  unfold newCluster
  split
  · rename_i h
    have hn := new_in h
    unfold newCl wtCluster
    simp only [wtB_len, wtIntS_len, List.length_replicate, List.length_nil]
    unfold wtRowSS
    simp only [List.length_replicate, hr]
    omega
  · unfold wtCluster
    simp only [wtB_len, wtIntS_len, List.length_nil]
    simp [wtQuery, wtCondS, wtIntS_len, wtRowSS, wtInt]
end Go.Proofs.YtmkhofdkdklpdaaGreat
