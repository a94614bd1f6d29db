/- Definitions and their laws. No condition. -/
import Derived.Test.YtmkhofdkdklpdaaGreatCDc
set_option linter.unusedVariables false
set_option linter.unusedSimpArgs false
namespace Go.Proofs.YtmkhofdkdklpdaaGreat
open Go Go.RowKit M
set_option maxRecDepth 10000
def upOkP (c : Cluster) (n : Int) : Prop := isCl c = true ∧ inB n 0 ((c.Up.length : Int) - 1) = true ∧ upAt c n = true
noncomputable def upOk (c : Cluster) (n : Int) : Bool := isCl c && (inB n 0 ((c.Up.length : Int) - 1) && upAt c n)
theorem clLen {c : Cluster} (h : isCl c = true) : c.At.length = c.Up.length ∧ c.Pos.length = c.Up.length ∧ c.Buffer.length = c.Up.length ∧ c.Rows.length = c.Parts.length ∧ 2 ≤ c.Up.length ∧ c.Up.length ≤ 4 ∧ c.Parts.length ≤ 8 := by
  have h1 := (isCl_iff.1 h).1
  obtain ⟨⟨_, h2, h3⟩, h4, h5, h6, h7⟩ := h1
  have := inB_iff.1 h3
  have := inB_iff.1 (okParts_iff.1 h2).1
  omega
def freeB (c : Cluster) (i : Int) : Bool := !hasI c.Done i && !hasI c.At i
def homeP (c : Cluster) (n i : Int) : Bool := freeB c i && decide (homeOf i c.Up.length = n)
def backP (c : Cluster) (n i : Int) : Bool := freeB c i && (decide (backupOf i c.Up.length = n) && !upAt c (homeOf i c.Up.length))
def firstIx (P : Int → Bool) (lo : Nat) : Nat → Int
  | 0 => -1
  | m + 1 => if P (lo : Int) = true then (lo : Int) else firstIx P (lo + 1) m
theorem firstIx_snoc {P : Int → Bool} : ∀ {m lo : Nat}, firstIx P lo (m + 1) = if firstIx P lo m = -1 then (if P ((lo + m : Nat) : Int) = true then ((lo + m : Nat) : Int) else -1) else firstIx P lo m
  | 0, lo => by simp [firstIx]
  | m + 1, lo => by
    rw [firstIx, firstIx_snoc (m := m) (lo := lo + 1)]
    conv => rhs; rw [firstIx]
    rw [show lo + 1 + m = lo + (m + 1) by omega]
    by_cases h : P (lo : Int) = true
    · simp only [h, if_true]
      rw [if_neg (by omega)]
    · simp only [h, if_false]; rfl
theorem firstIx_none {P : Int → Bool} : ∀ {m lo : Nat}, (∀ i : Nat, lo ≤ i → i < lo + m → P (i : Int) = false) → firstIx P lo m = -1
  | 0, _, _ => rfl
  | m + 1, lo, h => by
    rw [firstIx, if_neg (by rw [h lo (Nat.le_refl _) (by omega)]; simp), firstIx_none fun i h1 h2 => h i (by omega) (by omega)]
theorem firstIx_hit {P : Int → Bool} {k : Nat} (hP : P (k : Int) = true) : ∀ {m lo : Nat}, lo ≤ k → k < lo + m → (∀ i : Nat, lo ≤ i → i < k → P (i : Int) = false) → firstIx P lo m = k
  | 0, _, h1, h2, _ => by omega
  | m + 1, lo, h1, h2, h => by
    rw [firstIx]
    by_cases e : lo = k
    · subst e; rw [if_pos hP]
    · rw [if_neg (by rw [h lo (Nat.le_refl _) (by omega)]; simp)]
      exact firstIx_hit hP (by omega) (by omega) fun i h3 h4 => h i (by omega) h4
theorem firstIx_down {P : Int → Bool} {m L : Nat} (h : 1 ≤ m) (h2 : m ≤ L) : firstIx P (m - 1) (L - (m - 1)) = if P ((m : Int) - 1) = true then (m : Int) - 1 else firstIx P m (L - m) := by
  rw [show L - (m - 1) = (L - m) + 1 by omega, firstIx, show ((m - 1 : Nat) : Int) = (m : Int) - 1 by omega, show m - 1 + 1 = m by omega]
noncomputable def nextSeg (c : Cluster) (n : Int) : Int := if upOk c n = true ∧ atI c.At n = -1 then (if firstIx (homeP c n) 0 c.Parts.length = -1 then firstIx (backP c n) 0 c.Parts.length else firstIx (homeP c n) 0 c.Parts.length) else -1
theorem nextSeg_no {c : Cluster} {n : Int} (h : ¬ (upOk c n = true ∧ atI c.At n = -1)) : nextSeg c n = -1 := if_neg h
theorem nextSeg_hit {c : Cluster} {n : Int} {k : Nat} (h : upOk c n = true ∧ atI c.At n = -1) (hk : k < c.Parts.length) (hP : homeP c n (k : Int) = true) (ha : ∀ i : Nat, i < k → homeP c n (i : Int) = false) : nextSeg c n = k := by
  unfold nextSeg
  have e := firstIx_hit (P := homeP c n) (m := c.Parts.length) (lo := 0) hP (by omega) (by omega) fun i _ h2 => ha i h2
  rw [if_pos h, e, if_neg (by omega)]
theorem nextSeg_end {c : Cluster} {n : Int} (h : upOk c n = true ∧ atI c.At n = -1) (ha : ∀ i : Nat, i < c.Parts.length → homeP c n (i : Int) = false) : nextSeg c n = firstIx (backP c n) 0 c.Parts.length := by
  unfold nextSeg
  rw [if_pos h, if_pos (firstIx_none fun i _ h2 => ha i (by omega))]
theorem home_in {c : Cluster} {i : Int} (h : isCl c = true) (hi : 0 ≤ i) : 0 ≤ homeOf i c.Up.length ∧ homeOf i c.Up.length < c.Up.length := by
  have hl := clLen h
  unfold homeOf
  rw [if_pos ⟨inB_iff.2 (by omega), hi⟩]
  exact tmod_in (by omega) (by omega) hi
end Go.Proofs.YtmkhofdkdklpdaaGreat
