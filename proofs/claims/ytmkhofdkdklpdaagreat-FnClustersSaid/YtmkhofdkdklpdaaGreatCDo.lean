/- Definitions and their laws. No condition. -/
import Derived.Test.YtmkhofdkdklpdaaGreatCDn
set_option linter.unusedVariables false
set_option linter.unusedSimpArgs false
namespace Go.Proofs.YtmkhofdkdklpdaaGreat
open Go Go.RowKit M
set_option maxRecDepth 10000
def setUp (c : Cluster) (n : Int) (v : Bool) : Cluster := { c with Up := c.Up.set n.toNat v }
def stopAt (c : Cluster) (n : Int) : Cluster := { c with At := c.At.set n.toNat (-1), Pos := c.Pos.set n.toNat 0, Buffer := c.Buffer.set n.toNat [] }
noncomputable def recNode (c : Cluster) (n : Int) : Cluster × Bool := if isCl c && (inB n 0 ((c.Up.length : Int) - 1) && !upAt c n) then (setUp c n true, true) else (c, false)
noncomputable def failNode (c : Cluster) (n : Int) : Cluster × Bool := if upOk c n then (stopAt (setUp c n false) n, true) else (c, false)
theorem rec_yes {c : Cluster} {n : Int} (h1 : isCl c = true) (h2 : inB n 0 ((c.Up.length : Int) - 1) = true) (h3 : upAt c n = false) : recNode c n = (setUp c n true, true) := if_pos (by rw [h1, h2, h3]; rfl)
theorem rec_no {c : Cluster} {n : Int} (h : ¬ (isCl c = true ∧ inB n 0 ((c.Up.length : Int) - 1) = true ∧ upAt c n = false)) : recNode c n = (c, false) := if_neg (by simpa using h)
theorem fail_yes {c : Cluster} {n : Int} (h : upOk c n = true) : failNode c n = (stopAt (setUp c n false) n, true) := if_pos h
theorem fail_no {c : Cluster} {n : Int} (h : upOk c n = false) : failNode c n = (c, false) := if_neg (by rw [h]; simp)
theorem up_at {c : Cluster} {n : Int} (h1 : isCl c = true) (h2 : inB n 0 ((c.Up.length : Int) - 1) = true) : 0 ≤ n ∧ n.toNat < c.Up.length ∧ n.toNat < c.At.length ∧ n.toNat < c.Pos.length ∧ n.toNat < c.Buffer.length := by
  have hl := clLen h1
  have hq := inB_iff.1 h2
  omega
theorem upOk_at {c : Cluster} {n : Int} (h : upOk c n = true) : isCl c = true ∧ inB n 0 ((c.Up.length : Int) - 1) = true ∧ upAt c n = true := by
  unfold upOk at h; simpa using h
theorem sum_set {α : Type} {f : α → Nat} : ∀ (l : List α) (i : Nat) (x : α), ((l.set i x).map f).sum ≤ (l.map f).sum + f x
  | [], _, _ => by simp
  | a :: l, 0, x => by simp; omega
  | a :: l, i + 1, x => by
    have := sum_set (f := f) l i x
    simp only [List.set_cons_succ, List.map_cons, List.sum_cons]; omega
theorem wtB_len (x : List Bool) : wtBoolS x = x.length := by
  have h : ∀ l : List Bool, (l.map wtBool).sum = 0 := by
    intro l
    induction l with
    | nil => rfl
    | cons a l ih => rw [List.map_cons, List.sum_cons, ih]; rfl
  simp [wtBoolS, h]
theorem setUp_wt (c : Cluster) (n : Int) (v : Bool) : wtCluster (setUp c n v) = wtCluster c := by
  unfold setUp wtCluster
  simp only [wtB_len, List.length_set]
theorem stopAt_wt (c : Cluster) (n : Int) : wtCluster (stopAt c n) ≤ wtCluster c := by
  unfold stopAt wtCluster
  have h := sum_set (f := wtRowS) c.Buffer n.toNat []
  have h0 : wtRowS [] = 0 := rfl
  simp only [wtIntS_len, List.length_set]
  have h2 : wtRowSS (c.Buffer.set n.toNat []) ≤ wtRowSS c.Buffer := by unfold wtRowSS; rw [List.length_set]; omega
  omega
theorem recNode_wt (c : Cluster) (n : Int) : wtCluster (recNode c n).1 ≤ wtCluster c := by
  unfold recNode
  split
  · exact Nat.le_of_eq (setUp_wt c n true)
  · exact Nat.le_refl _
theorem failNode_wt (c : Cluster) (n : Int) : wtCluster (failNode c n).1 ≤ wtCluster c := by
  unfold failNode
  split
  · exact Nat.le_trans (stopAt_wt _ n) (Nat.le_of_eq (setUp_wt c n false))
  · exact Nat.le_refl _
end Go.Proofs.YtmkhofdkdklpdaaGreat
