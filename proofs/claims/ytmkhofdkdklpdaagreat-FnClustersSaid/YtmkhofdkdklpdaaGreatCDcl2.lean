/- Definitions and their laws. No condition. -/
import Derived.Test.YtmkhofdkdklpdaaGreatCDcl
import Derived.Test.YtmkhofdkdklpdaaGreatCDi
import Derived.Test.YtmkhofdkdklpdaaGreatCDfl2
set_option linter.unusedVariables false
set_option linter.unusedSimpArgs false
namespace Go.Proofs.YtmkhofdkdklpdaaGreat
open Go Go.RowKit M
set_option maxRecDepth 10000
def fineB (c : Cluster) (k : Nat) : Bool := hasI c.Done (k : Int) || (upAt c (homeOf (k : Int) c.Up.length) || upAt c (backupOf (k : Int) c.Up.length))
def upTo (c : Cluster) (k : Nat) : Bool := (List.range k).all (fineB c)
theorem upTo_succ {c : Cluster} {k : Nat} : upTo c (k + 1) = (upTo c k && fineB c k) := by simp [upTo, List.range_succ]
theorem fin_has {c : Cluster} {k : Nat} (h : isCl c = true) (hk : k < c.Parts.length) : hasI (finC c).Done (k : Int) = fineB c k := by
  rw [Bool.eq_iff_iff, hasI_iff, (fin_law h).2.2.2.2 k hk]
  unfold fineC fineB
  rw [Bool.or_eq_true, Bool.or_eq_true, hasI_iff]
theorem fine_d {c : Cluster} {k : Nat} (h : hasI c.Done (k : Int) = true) : fineB c k = true := by unfold fineB; rw [h]; rfl
theorem fine_h {c : Cluster} {k : Nat} (h : upAt c (homeOf (k : Int) c.Up.length) = true) : fineB c k = true := by unfold fineB; rw [h, Bool.true_or, Bool.or_true]
theorem fine_b {c : Cluster} {k : Nat} (h : hasI c.Done (k : Int) = false) (h2 : upAt c (homeOf (k : Int) c.Up.length) = false) : fineB c k = upAt c (backupOf (k : Int) c.Up.length) := by unfold fineB; rw [h, h2]; rfl
theorem fin_rows {c : Cluster} (h : isCl c = true) : cluRows (finC c) = isort (lessQ cmpRow) (found c.Query (partsOn c (finC c) c.Parts.length)) := by
  obtain ⟨h1, h2, h3, h4, _⟩ := fin_law h
  rw [cluRows_ok h1, rows_done h1, h4]
  congr 2
  unfold partsOn
  rw [h3]
theorem fin_all {c : Cluster} (h : isCl c = true) (hu : upTo c c.Parts.length = true) : partsOn c (finC c) c.Parts.length = c.Parts.flatten := by
  rw [partsOn_all (Nat.le_refl _) fun i hi => by
    rw [fin_has h hi]
    exact List.all_eq_true.1 hu i (List.mem_range.2 hi), List.take_length]
theorem wtR_app (a b : List Row) : wtRowS (a ++ b) = wtRowS a + wtRowS b := by unfold wtRowS; simp; omega
theorem partsOn_wt (c x : Cluster) : ∀ k : Nat, k ≤ c.Parts.length → wtRowS (partsOn c x k) ≤ ((c.Parts.take k).map wtRowS).sum
  | 0, _ => by simp [partsOn, wtRowS]
  | k + 1, hk => by
    have ih := partsOn_wt c x k (by omega)
    have hs := wtk (f := wtRowS) (xs := c.Parts) (k := k) (by omega)
    rw [partsOn_succ, wtR_app, hs]
    split
    · rw [getD_at (show k < c.Parts.length by omega)]; omega
    · have : wtRowS [] = 0 := rfl
      omega
theorem partsOn_le (c x : Cluster) {k : Nat} (hk : k ≤ c.Parts.length) : wtRowS (partsOn c x k) ≤ wtRowSS c.Parts := by
  have h1 := partsOn_wt c x k hk
  have h2 := wtk_le (f := wtRowS) c.Parts k
  unfold wtRowSS; omega
theorem found_wt (q : Query) : ∀ l : List Row, wtRowS (found q l) ≤ wtRowS l
  | [] => Nat.le_refl _
  | r :: l => by
    have ih := found_wt q l
    unfold found at ih ⊢
    rw [List.filter_cons]
    unfold wtRowS at ih ⊢
    split <;> simp only [List.length_cons, List.map_cons, List.sum_cons] <;> omega

end Go.Proofs.YtmkhofdkdklpdaaGreat
