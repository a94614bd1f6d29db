/- Definitions and their laws. No condition. -/
import Derived.Test.YtmkhofdkdklpdaaGreatCDt
set_option linter.unusedVariables false
set_option linter.unusedSimpArgs false
namespace Go.Proofs.YtmkhofdkdklpdaaGreat
open Go Go.RowKit M
set_option maxRecDepth 10000
theorem ss_set2 : ∀ {l : List (List Row)} {i : Nat} {x : List Row}, wtRowSS (l.set i x) + wtRowS (l.getD i []) ≤ wtRowSS l + wtRowS x
  | [], i, x => by simp [wtRowSS, wtRowS]
  | a :: l, 0, x => by simp [wtRowSS]; omega
  | a :: l, i + 1, x => by
    have := ss_set2 (l := l) (i := i) (x := x)
    simp only [wtRowSS, List.set_cons_succ, List.map_cons, List.sum_cons, List.length_cons, List.getD_cons_succ] at *
    omega
theorem step_wt1 (c : Cluster) (n : Int) : wtCluster (stepNode c n).1 ≤ wtCluster c + wtRowSS c.Parts + 1 := by
  unfold stepNode
  split
  · split
    · have := setAt_wt c n (nextSeg c n); show wtCluster (setAt c n (nextSeg c n)) ≤ _; omega
    · split
      · show wtCluster (stepRow c n) ≤ _
        have h1 := part_le (c := c) (s := atI c.At n)
        have h3 := row_le (l := partAt c (atI c.At n)) (k := atI c.Pos n)
        have h4 := ss_set2 (l := c.Buffer) (i := n.toNat) (x := bufAt c n ++ [rowOf (partAt c (atI c.At n)) (atI c.Pos n)])
        have h5 : wtRowS (bufAt c n ++ [rowOf (partAt c (atI c.At n)) (atI c.Pos n)]) = wtRowS (bufAt c n) + 1 + wtRow (rowOf (partAt c (atI c.At n)) (atI c.Pos n)) := by
          unfold wtRowS; simp; omega
        have h6 : c.Buffer.getD n.toNat [] = bufAt c n := rfl
        rw [h6] at h4
        unfold stepRow
        split <;> (unfold wtCluster; simp only [wtIntS_len, List.length_set]; omega)
      · show wtCluster (stopAt (endC c n) n) ≤ _
        have h4 := ss_set2 (l := c.Buffer) (i := n.toNat) (x := [])
        have h6 : c.Buffer.getD n.toNat [] = bufAt c n := rfl
        have h7 := ss_set (l := c.Rows) (i := (atI c.At n).toNat) (x := bufAt c n)
        have h8 : wtRowS [] = 0 := rfl
        rw [h6] at h4
        unfold stopAt endC wtCluster
        simp only [wtIntS_len, List.length_set, insP_len]; omega
  · show wtCluster c ≤ _; omega
theorem step_parts (c : Cluster) (n : Int) : (stepNode c n).1.Parts = c.Parts := by
  unfold stepNode
  split
  · split
    · rfl
    · split
      · rfl
      · rfl
  · rfl
noncomputable def goOn (c : Cluster) : Bool := isCl c && decide ((c.Done.length : Int) < (c.Parts.length : Int))
noncomputable def finGo : Nat → Nat → Cluster → Cluster
  | 0, _, c => c
  | f + 1, k, c => if goOn c = true then finGo f (k + 1) (stepNode c (Int.tmod (k : Int) (c.Up.length : Int))).1 else c
noncomputable def finC (c : Cluster) : Cluster := finGo 400 0 c
theorem fin_go {k : Nat} {c : Cluster} (hk : k < 400) (h : goOn c = true) : finGo (400 - k) k c = finGo (400 - (k + 1)) (k + 1) (stepNode c (Int.tmod (k : Int) (c.Up.length : Int))).1 := by
  obtain ⟨m, hm⟩ : ∃ m, 400 - k = m + 1 := ⟨400 - k - 1, by omega⟩
  rw [hm, finGo, if_pos h, show 400 - (k + 1) = m by omega]
theorem fin_stop {k : Nat} {c : Cluster} (h : ¬ (k < 400 ∧ goOn c = true)) : finGo (400 - k) k c = c := by
  by_cases hk : k < 400
  · obtain ⟨m, hm⟩ : ∃ m, 400 - k = m + 1 := ⟨400 - k - 1, by omega⟩
    rw [hm, finGo, if_neg (fun x => h ⟨hk, x⟩)]
  · rw [show 400 - k = 0 by omega]; rfl
theorem finGo_wt {B : Nat} : ∀ (f k : Nat) (c : Cluster), wtRowSS c.Parts ≤ B → wtCluster (finGo f k c) ≤ wtCluster c + f * (B + 1)
  | 0, _, c, _ => by show wtCluster c ≤ _; omega
  | f + 1, k, c, hB => by
    rw [finGo]
    have e : (f + 1) * (B + 1) = f * (B + 1) + (B + 1) := Nat.succ_mul f (B + 1)
    split
    · have h1 := step_wt1 c (Int.tmod (k : Int) (c.Up.length : Int))
      have h2 := finGo_wt (B := B) f (k + 1) (stepNode c (Int.tmod (k : Int) (c.Up.length : Int))).1 (by rw [step_parts]; exact hB)
      omega
    · omega
theorem finC_wt (c : Cluster) (h : wtCluster c ≤ 1048576) : wtCluster (finC c) ≤ 420479376 := by
  have h1 : wtRowSS c.Parts ≤ 1048576 := by unfold wtCluster at h; omega
  have h2 := finGo_wt (B := 1048576) 400 0 c h1
  unfold finC
  omega
end Go.Proofs.YtmkhofdkdklpdaaGreat
