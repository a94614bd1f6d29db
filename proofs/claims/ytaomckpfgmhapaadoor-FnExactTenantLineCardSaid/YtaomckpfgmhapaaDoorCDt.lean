/- Definitions and their laws. No condition. -/
import Derived.Test.YtaomckpfgmhapaaDoorCDh
set_option linter.unusedVariables false
set_option linter.unusedSimpArgs false
namespace Go.Proofs.YtaomckpfgmhapaaDoor
open Go Go.RowKit M
set_option maxRecDepth 10000
theorem join_two {xs : List Bytes} {a b sep : Bytes} (h : xs ≠ []) : joinB (xs ++ [a, b]) sep = joinB xs sep ++ sep ++ a ++ sep ++ b := by
  rw [show xs ++ [a, b] = (xs ++ [a]) ++ [b] by simp, join_snoc, if_neg (by simp), join_snoc, if_neg h]
def wordsT (l : List Charge) (k : Nat) : List Bytes := [[116, 111, 116, 97, 108], itoa (totalWork l)] ++ (List.range k).flatMap fun i : Nat => [[116] ++ itoa (i : Int), itoa (tenantCharge l (i : Int))]
theorem wordsT_succ {l : List Charge} {k : Nat} : wordsT l (k + 1) = wordsT l k ++ [[116] ++ itoa (k : Int), itoa (tenantCharge l (k : Int))] := by
  simp [wordsT, List.range_succ, List.flatMap_append]
theorem wordsT_ne {l : List Charge} {k : Nat} : wordsT l k ≠ [] := by simp [wordsT]
theorem wordsT_len {l : List Charge} {k : Nat} : (wordsT l k).length = 2 + 2 * k := by
  induction k with
  | zero => rfl
  | succ k ih => rw [wordsT_succ, List.length_append, ih]; simp; omega
def tenLine (l : List Charge) : Bytes := joinB (wordsT l 4) [32]
theorem wordsT_le {l : List Charge} (hl : l.length ≤ 1048576) {k : Nat} (hk : k ≤ 4) : ∀ x ∈ wordsT l k, x.length ≤ 22 := by
  have h1 := totalWork_le l
  have h3 : (itoa (totalWork l)).length ≤ 21 := itoa_len (by unfold I64; omega)
  intro x hx
  unfold wordsT at hx
  rcases List.mem_append.1 hx with hx | hx
  · simp at hx
    rcases hx with rfl | rfl
    · decide
    · omega
  · obtain ⟨i, hi, hx⟩ := List.mem_flatMap.1 hx
    have hi := List.mem_range.1 hi
    have h2 := tenantCharge_le l (i : Int)
    have h4 : (itoa (i : Int)).length ≤ 21 := itoa_len (by unfold I64; omega)
    have h5 : (itoa (tenantCharge l (i : Int))).length ≤ 21 := itoa_len (by unfold I64; omega)
    simp at hx
    rcases hx with rfl | rfl
    · simp; omega
    · omega
theorem tenJ_le {l : List Charge} (hl : l.length ≤ 1048576) {k : Nat} (hk : k ≤ 4) : (joinB (wordsT l k) [32]).length ≤ 400 := by
  have h := join_le (m := 22) (sep := [32]) (wordsT_le hl hk)
  rw [wordsT_len] at h
  simp only [List.length_cons, List.length_nil] at h
  have : (2 + 2 * k) * (22 + (0 + 1)) ≤ 10 * 23 := Nat.mul_le_mul (by omega) (by omega)
  omega

end Go.Proofs.YtaomckpfgmhapaaDoor
