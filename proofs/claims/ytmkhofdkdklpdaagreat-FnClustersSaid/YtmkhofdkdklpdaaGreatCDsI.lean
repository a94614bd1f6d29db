/- Definitions and their laws. No condition. -/
import Derived.Test.YtmkhofdkdklpdaaGreatCDa
set_option linter.unusedVariables false
set_option linter.unusedSimpArgs false
namespace Go.Proofs.YtmkhofdkdklpdaaGreat
open Go Go.RowKit M
set_option maxRecDepth 10000
def cont (p : List Int) (x : Int) (r : List Int) (j : Nat) : List Int := p.take j ++ x :: (p.drop j ++ r)
section
variable {p r xs l : List Int} {x : Int} {j k : Nat}
theorem cont_len (hj : j ≤ p.length) : (cont p x r j).length = p.length + 1 + r.length := by
  unfold cont
  simp only [List.length_append, List.length_cons, List.length_take, List.length_drop]
  omega
theorem cont_at (hj : j ≤ p.length) {h : j < (cont p x r j).length} : (cont p x r j)[j] = x := by
  have e : (cont p x r j)[j]? = some x := by
    unfold cont
    rw [List.getElem?_append_right (by rw [List.length_take]; omega)]
    simp [Nat.min_eq_left hj]
  exact (List.getElem?_eq_some_iff.1 e).2
theorem cont_pre (h1 : 1 ≤ j) (hj : j ≤ p.length) {h : j - 1 < (cont p x r j).length} : (cont p x r j)[j - 1] = p.getD (j - 1) 0 := by
  have e : (cont p x r j)[j - 1]? = some (p.getD (j - 1) 0) := by
    unfold cont
    rw [List.getElem?_append_left (by rw [List.length_take]; omega), List.getElem?_take_of_lt (by omega), getD_at (by omega)]
    exact List.getElem?_eq_getElem _
  exact (List.getElem?_eq_some_iff.1 e).2
theorem cont_swap (h1 : 1 ≤ j) (hj : j ≤ p.length) {h : j < (cont p x r j).length} {h' : j - 1 < (cont p x r j).length} : ((cont p x r j).set j (cont p x r j)[j - 1]).set (j - 1) (cont p x r j)[j] = cont p x r (j - 1) := by
  rw [cont_at hj, cont_pre h1 hj, getD_at (by omega)]
  obtain ⟨m, rfl⟩ : ∃ m, j = m + 1 := ⟨j - 1, by omega⟩
  simp only [Nat.add_sub_cancel]
  have hA : (p.take m).length = m := by rw [List.length_take]; omega
  have e1 : cont p x r (m + 1) = p.take m ++ p[m] :: x :: (p.drop (m + 1) ++ r) := by
    unfold cont
    rw [List.take_succ_eq_append_getElem (by omega), List.append_assoc]; rfl
  have e2 : cont p x r m = p.take m ++ x :: p[m] :: (p.drop (m + 1) ++ r) := by
    unfold cont
    rw [List.drop_eq_getElem_cons (by omega : m < p.length)]; rfl
  rw [e1, e2, List.set_append_right _ _ (by omega), List.set_append_right _ _ (by omega), hA]
  rw [show m + 1 - m = 1 by omega, Nat.sub_self]
  rfl
def insAt (p : List Int) (x : Int) : Nat → Nat
  | 0 => 0
  | j + 1 => if x < p.getD j 0 then insAt p x j else j + 1
def insR (p : List Int) (x : Int) : List Int := p.take (insAt p x p.length) ++ x :: p.drop (insAt p x p.length)
def srt (xs : List Int) : Nat → List Int
  | 0 => []
  | i + 1 => insR (srt xs i) (xs.getD i 0)
theorem insAt_le : ∀ {j : Nat}, insAt p x j ≤ j
  | 0 => Nat.le_refl _
  | j + 1 => by
    rw [insAt]
    split
    · exact Nat.le_succ_of_le insAt_le
    · exact Nat.le_refl _
theorem srt_len : ∀ {i : Nat}, (srt xs i).length = i
  | 0 => rfl
  | i + 1 => by
    rw [srt, insR, List.length_append, List.length_cons, List.length_take, List.length_drop, srt_len (i := i)]
    have := insAt_le (p := srt xs i) (x := xs.getD i 0) (j := i)
    omega
theorem insAt_go (h1 : 1 ≤ j) (h : x < p.getD (j - 1) 0) : insAt p x (j - 1) = insAt p x j := by
  obtain ⟨m, rfl⟩ : ∃ m, j = m + 1 := ⟨j - 1, by omega⟩
  rw [Nat.add_sub_cancel] at h
  rw [insAt, if_pos h]; rfl
theorem insAt_stop (h : j = 0 ∨ ¬ x < p.getD (j - 1) 0) : insAt p x j = j := by
  cases j with
  | zero => rfl
  | succ m =>
    rcases h with h | h
    · omega
    · rw [Nat.add_sub_cancel] at h
      rw [insAt, if_neg h]
theorem cont_start (hk : k < xs.length) : srt xs k ++ xs.drop k = cont (srt xs k) (xs.getD k 0) (xs.drop (k + 1)) k := by
  unfold cont
  rw [List.take_of_length_le (by rw [srt_len]; exact Nat.le_refl _), List.drop_of_length_le (l := srt xs k) (by rw [srt_len]; exact Nat.le_refl _), List.nil_append, List.drop_eq_getElem_cons hk, getD_at hk]
theorem cont_end (h : insAt (srt xs k) (xs.getD k 0) j = insAt (srt xs k) (xs.getD k 0) k) (hs : insAt (srt xs k) (xs.getD k 0) j = j) : cont (srt xs k) (xs.getD k 0) (xs.drop (k + 1)) j = srt xs (k + 1) ++ xs.drop (k + 1) := by
  rw [srt, insR, srt_len, ← h, hs]
  unfold cont
  rw [List.append_assoc]; rfl
theorem srt_one (h : 1 ≤ xs.length) : xs = srt xs 1 ++ xs.drop 1 := by
  cases xs with
  | nil => simp at h
  | cons a l => rfl
theorem srt_all : srt xs xs.length ++ xs.drop xs.length = srt xs xs.length := by rw [List.drop_length, List.append_nil]
def insP (x : Int) : List Int → List Int
  | [] => [x]
  | y :: l => if y < x then y :: insP x l else x :: y :: l
theorem insP_at : ∀ {l : List Int} {k : Nat}, k ≤ l.length → (∀ i : Nat, (h : i < k) → (h2 : i < l.length) → l[i] < x) → (∀ h : k < l.length, ¬ l[k] < x) → insP x l = l.take k ++ x :: l.drop k
  | [], k, hk, _, _ => by simp at hk; subst hk; rfl
  | y :: l, 0, _, _, h => by
    have : ¬ y < x := h (by simp)
    rw [insP, if_neg this]; rfl
  | y :: l, k + 1, hk, h1, h2 => by
    have hy : y < x := h1 0 (by omega) (by simp)
    rw [insP, if_pos hy, insP_at (k := k) (by simpa using hk) (fun i h h' => h1 (i + 1) (by omega) (by rw [List.length_cons]; omega)) (fun h => h2 (by rw [List.length_cons]; omega))]
    rfl
theorem insP_len : ∀ {l : List Int}, (insP x l).length = l.length + 1
  | [] => rfl
  | y :: l => by
    rw [insP]
    split
    · rw [List.length_cons, insP_len, List.length_cons]
    · rfl
/-- ascending -/
def asc (l : List Int) : Prop := ∀ i : Nat, (h : i + 1 < l.length) → l[i] < l[i + 1]
theorem asc_lt (h : asc l) : ∀ {i j : Nat} (h1 : i < j) (hj : j < l.length), l[i]'(Nat.lt_trans h1 hj) < l[j]
  | i, 0, h1, _ => by omega
  | i, j + 1, h1, hj => by
    have h2 := h j hj
    by_cases e : i = j
    · subst e; exact h2
    · exact Int.lt_trans (asc_lt h (by omega : i < j) (by omega)) h2
theorem srt_asc (h : asc l) : ∀ {i : Nat}, i ≤ l.length → srt (l ++ [x]) i = l.take i
  | 0, _ => rfl
  | i + 1, hi => by
    have hg : (l ++ [x]).getD i 0 = l[i] := by rw [getD_at (by simp; omega), List.getElem_append_left (by omega)]
    rw [srt, srt_asc h (by omega), hg, insR]
    have ht : (l.take i).length = i := by rw [List.length_take]; omega
    rw [ht, insAt_stop (by
      cases i with
      | zero => exact .inl rfl
      | succ m =>
        right
        rw [Nat.add_sub_cancel, getD_at (by rw [ht]; omega), List.getElem_take]
        have := h m (by omega)
        omega), List.take_of_length_le (by omega), List.drop_of_length_le (by omega), List.take_succ_eq_append_getElem (by omega)]
theorem insAt_gt : ∀ {j : Nat}, j ≤ p.length → ∀ i : Nat, insAt p x j ≤ i → (h : i < j) → (h2 : i < p.length) → x < p[i]
  | 0, _, i, _, h, _ => by omega
  | j + 1, hj, i, h1, h, h2 => by
    rw [insAt] at h1
    split at h1
    · rename_i hx
      by_cases e : i = j
      · subst e; rwa [getD_at h2] at hx
      · exact insAt_gt (by omega) i h1 (by omega) h2
    · omega
theorem insAt_last : ∀ {j : Nat}, j ≤ p.length → ∀ (h : 1 ≤ insAt p x j) (h2 : insAt p x j - 1 < p.length), ¬ x < p[insAt p x j - 1]
  | 0, _, h, _ => by simp [insAt] at h
  | j + 1, hj, h, h2 => by
    by_cases hx : x < p.getD j 0
    · have e : insAt p x (j + 1) = insAt p x j := by rw [insAt, if_pos hx]
      simp only [e] at h h2 ⊢
      exact insAt_last (by omega) h h2
    · have e : insAt p x (j + 1) = j + 1 := by rw [insAt, if_neg hx]
      simp only [e, Nat.add_sub_cancel]
      rwa [getD_at (by omega)] at hx
theorem srt_ins (h : asc l) (hx : x ∉ l) : srt (l ++ [x]) (l ++ [x]).length = insP x l := by
  have e : (l ++ [x]).length = l.length + 1 := by simp
  have hg : (l ++ [x]).getD l.length 0 = x := by rw [getD_at (by simp)]; simp
  rw [e, srt, srt_asc h (Nat.le_refl _), List.take_length, hg, insR]
  have hle := insAt_le (p := l) (x := x) (j := l.length)
  refine (insP_at hle (fun i h1 h2 => ?_) (fun h1 => ?_)).symm
  · have h3 := insAt_last (p := l) (x := x) (Nat.le_refl _) (by omega) (by omega)
    have h4 : l[i] ≤ l[insAt l x l.length - 1] := by
      by_cases e : i = insAt l x l.length - 1
      · subst e; exact Int.le_refl _
      · exact Int.le_of_lt (asc_lt h (by omega) (by omega))
    have h5 : l[i] ≠ x := fun e => hx (e ▸ List.getElem_mem h2)
    omega
  · have := insAt_gt (p := l) (x := x) (Nat.le_refl _) _ (Nat.le_refl _) h1 h1
    omega
end
def lenT (x : Int) : Int := if x = 0 then 0 else if x = 1 then 1 else if x ≤ 3 then 2 else if x ≤ 7 then 3 else 4
end Go.Proofs.YtmkhofdkdklpdaaGreat
