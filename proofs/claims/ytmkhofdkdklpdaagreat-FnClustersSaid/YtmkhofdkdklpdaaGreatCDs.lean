/- Definitions and their laws. No condition. -/
import Derived.Test.YtmkhofdkdklpdaaGreatCDa
set_option linter.unusedVariables false
set_option linter.unusedSimpArgs false
namespace Go.Proofs.YtmkhofdkdklpdaaGreat
open Go Go.RowKit M
set_option maxRecDepth 10000
section
variable {β : Type} (lt : β → β → Bool)
structure Ord : Prop where
  trans : ∀ {x y z : β}, lt x y = true → lt y z = true → lt x z = true
  ntrans : ∀ {x y z : β}, lt y x = false → lt z y = false → lt z x = false
def insL (x : β) : List β → List β
  | [] => [x]
  | y :: p => if lt x y then x :: y :: p else y :: insL x p
def isort (l : List β) : List β := l.foldl (fun p x => insL lt x p) []
def mergeL : List β → List β → List β
  | [], B => B
  | a :: A, [] => a :: A
  | a :: A, b :: B => if lt b a then b :: mergeL (a :: A) B else a :: mergeL A (b :: B)
termination_by A B => A.length + B.length
def sortedL (l : List β) : Prop := l.Pairwise fun x y => lt y x = false
variable {lt}
theorem snoc_ind {p : List β → Prop} (h0 : p []) (h1 : ∀ l x, p l → p (l ++ [x])) (l : List β) : p l := by
  rw [← List.reverse_reverse l]
  induction l.reverse with
  | nil => exact h0
  | cons x l ih => rw [List.reverse_cons]; exact h1 _ _ ih
theorem mergeL_cons (a : β) (A : List β) (b : β) (B : List β) : mergeL lt (a :: A) (b :: B) = if lt b a then b :: mergeL lt (a :: A) B else a :: mergeL lt A (b :: B) := by rw [mergeL]
theorem isort_snoc (l : List β) (x : β) : isort lt (l ++ [x]) = insL lt x (isort lt l) := by
  unfold isort; rw [List.foldl_append]; rfl
theorem insL_len (x : β) : ∀ l : List β, (insL lt x l).length = l.length + 1
  | [] => rfl
  | y :: p => by
    rw [insL]; split
    · rfl
    · rw [List.length_cons, insL_len x p, List.length_cons]
theorem isort_len (l : List β) : (isort lt l).length = l.length := by
  refine snoc_ind (p := fun l => (isort lt l).length = l.length) rfl (fun l x ih => ?_) l
  rw [isort_snoc, insL_len, ih, List.length_append]; rfl
theorem mergeL_nil (A : List β) : mergeL lt A [] = A := by cases A <;> rw [mergeL]
theorem nil_mergeL (B : List β) : mergeL lt [] B = B := by rw [mergeL]
theorem mergeL_len : ∀ (A B : List β), (mergeL lt A B).length = A.length + B.length
  | [], B => by rw [mergeL]; simp
  | a :: A, [] => by rw [mergeL]; simp
  | a :: A, b :: B => by
    rw [mergeL_cons]
    split
    · rw [List.length_cons, mergeL_len (a :: A) B]; simp only [List.length_cons]; omega
    · rw [List.length_cons, mergeL_len A (b :: B)]; simp only [List.length_cons]; omega
termination_by A B => A.length + B.length
theorem merge_ins (ho : Ord lt) (x : β) : ∀ (A B : List β), mergeL lt A (insL lt x B) = insL lt x (mergeL lt A B)
  | [], B => by rw [nil_mergeL, nil_mergeL]
  | a :: A, [] => by
    rw [mergeL_nil, insL, insL, mergeL_cons]
    split
    · rw [mergeL_nil]
    · have := merge_ins ho x A []
      rw [mergeL_nil, insL] at this
      rw [this]
  | a :: A, b :: B => by
    rw [insL]
    by_cases h1 : lt x b = true
    · rw [if_pos h1, mergeL_cons (lt := lt) a A x, mergeL_cons (lt := lt) a A b]
      by_cases h2 : lt b a = true
      · rw [if_pos h2, if_pos (ho.trans h1 h2), insL, if_pos h1]
      · rw [if_neg h2, insL]
        by_cases h3 : lt x a = true
        · rw [if_pos h3, if_pos h3]
        · rw [if_neg h3, if_neg h3]
          have := merge_ins ho x A (b :: B)
          rw [insL, if_pos h1] at this
          rw [this]
    · rw [if_neg h1, mergeL_cons, mergeL_cons]
      by_cases h2 : lt b a = true
      · rw [if_pos h2, if_pos h2, insL, if_neg h1, merge_ins ho x (a :: A) B]
      · rw [if_neg h2, if_neg h2, insL]
        have h3 : lt x a = false := ho.ntrans (by simpa using h2) (by simpa using h1)
        rw [if_neg (by rw [h3]; simp)]
        have := merge_ins ho x A (b :: B)
        rw [insL, if_neg h1] at this
        rw [this]
termination_by A B => A.length + B.length
theorem isort_app (ho : Ord lt) (A B : List β) : isort lt (A ++ B) = mergeL lt (isort lt A) (isort lt B) := by
  refine snoc_ind (p := fun B => isort lt (A ++ B) = mergeL lt (isort lt A) (isort lt B)) ?_ (fun B x ih => ?_) B
  · rw [List.append_nil]; exact (mergeL_nil _).symm
  · rw [← List.append_assoc, isort_snoc, isort_snoc, ih, merge_ins ho]
theorem insL_mem {x y : β} : ∀ {l : List β}, y ∈ insL lt x l ↔ y = x ∨ y ∈ l
  | [] => by simp [insL]
  | z :: l => by
    rw [insL]; split
    · simp
    · simp only [List.mem_cons, insL_mem (l := l)]
      constructor
      · rintro (h | h | h) <;> simp [h]
      · rintro (h | h | h) <;> simp [h]
theorem asym (ho : Ord lt) (hi : ∀ x, lt x x = false) {x y : β} (h : lt x y = true) : lt y x = false := by
  cases k : lt y x with
  | false => rfl
  | true => have := ho.trans h k; rw [hi] at this; cases this
theorem sorted_ins (ho : Ord lt) (hi : ∀ x, lt x x = false) (x : β) : ∀ {l : List β}, sortedL lt l → sortedL lt (insL lt x l)
  | [], _ => by simp [insL, sortedL]
  | y :: l, h => by
    have h' := List.pairwise_cons.1 h
    rw [insL]
    split
    · rename_i hxy
      refine List.pairwise_cons.2 ⟨fun z hz => ?_, h⟩
      rcases List.mem_cons.1 hz with rfl | hz
      · exact asym ho hi hxy
      · exact ho.ntrans (asym ho hi hxy) (h'.1 z hz)
    · rename_i hxy
      refine List.pairwise_cons.2 ⟨fun z hz => ?_, sorted_ins ho hi x h'.2⟩
      rcases insL_mem.1 hz with rfl | hz
      · simpa using hxy
      · exact h'.1 z hz
theorem sorted_isort (ho : Ord lt) (hi : ∀ x, lt x x = false) (l : List β) : sortedL lt (isort lt l) := by
  refine snoc_ind (p := fun l => sortedL lt (isort lt l)) List.Pairwise.nil (fun l x ih => ?_) l
  rw [isort_snoc]; exact sorted_ins ho hi x ih
theorem merge_split : ∀ {A1 B1 A2 B2 : List β}, (∀ x ∈ A2, ∀ y ∈ B1, lt y x = true) → (∀ x ∈ A1, ∀ y ∈ B2, lt y x = false) → mergeL lt (A1 ++ A2) (B1 ++ B2) = mergeL lt A1 B1 ++ mergeL lt A2 B2
  | [], [], A2, B2, _, _ => by rw [nil_mergeL]; rfl
  | [], b :: B1, [], B2, _, _ => by simp only [List.append_nil, nil_mergeL]
  | [], b :: B1, x :: A2, B2, h1, h2 => by
    have ih := merge_split (A1 := []) (B1 := B1) (A2 := x :: A2) (B2 := B2) (fun u hu v hv => h1 u hu v (by simp [hv])) (by simp)
    rw [nil_mergeL] at ih
    simp only [List.nil_append, List.cons_append, nil_mergeL] at ih ⊢
    rw [mergeL_cons, if_pos (h1 x (by simp) b (by simp)), ih]
  | a :: A1, [], A2, [], _, _ => by simp only [List.append_nil, mergeL_nil]
  | a :: A1, [], A2, y :: B2, h1, h2 => by
    have ih := merge_split (A1 := A1) (B1 := []) (A2 := A2) (B2 := y :: B2) (by simp) (fun u hu v hv => h2 u (by simp [hu]) v hv)
    simp only [List.nil_append, List.cons_append, mergeL_nil] at ih ⊢
    rw [mergeL_cons, if_neg (by rw [h2 a (by simp) y (by simp)]; simp), ih]
  | a :: A1, b :: B1, A2, B2, h1, h2 => by
    have i1 := merge_split (A1 := a :: A1) (B1 := B1) (A2 := A2) (B2 := B2) (fun u hu v hv => h1 u hu v (by simp [hv])) h2
    have i2 := merge_split (A1 := A1) (B1 := b :: B1) (A2 := A2) (B2 := B2) h1 (fun u hu v hv => h2 u (by simp [hu]) v hv)
    simp only [List.cons_append] at i1 i2 ⊢
    rw [mergeL_cons, mergeL_cons]
    split
    · rw [i1]; rfl
    · rw [i2]; rfl
termination_by A1 B1 _ _ _ _ => A1.length + B1.length
theorem insL_at {x : β} : ∀ {p : List β} {k : Nat}, k ≤ p.length → (∀ i : Nat, (h : i < k) → (h2 : i < p.length) → lt x p[i] = false) → (∀ h : k < p.length, lt x p[k] = true) → insL lt x p = p.take k ++ x :: p.drop k
  | [], k, hk, _, _ => by simp at hk; subst hk; rfl
  | y :: l, 0, _, _, h => by
    have : lt x y = true := h (by simp)
    rw [insL, if_pos this]; rfl
  | y :: l, k + 1, hk, h1, h2 => by
    have hy : lt x y = false := h1 0 (by omega) (by simp)
    rw [insL, if_neg (by rw [hy]; simp), insL_at (k := k) (by simpa using hk) (fun i h h' => h1 (i + 1) (by omega) (by rw [List.length_cons]; omega)) (fun h => h2 (by rw [List.length_cons]; omega))]
    rfl
theorem sorted_at {l : List β} (h : sortedL lt l) {i j : Nat} (hij : i < j) (hj : j < l.length) : lt l[j] (l[i]'(Nat.lt_trans hij hj)) = false := List.pairwise_iff_getElem.1 h i j (Nat.lt_trans hij hj) hj hij
/-- where the scan from the right stops -/
theorem ins_scan (ho : Ord lt) {x : β} {p : List β} {k : Nat} (hs : sortedL lt p) (hk : k ≤ p.length) (h1 : ∀ i : Nat, k ≤ i → (h : i < p.length) → lt x p[i] = true) (h2 : k = 0 ∨ ∀ h : k - 1 < p.length, lt x p[k - 1] = false) : insL lt x p = p.take k ++ x :: p.drop k := by
  refine insL_at hk (fun i hi hi2 => ?_) (fun h => h1 k (Nat.le_refl _) h)
  rcases h2 with h2 | h2
  · omega
  · have h3 := h2 (by omega)
    by_cases e : i = k - 1
    · subst e; exact h3
    · exact ho.ntrans (sorted_at hs (by omega : i < k - 1) (by omega)) h3
theorem perm_insL (x : β) : ∀ l : List β, (insL lt x l).Perm (x :: l)
  | [] => List.Perm.refl _
  | y :: l => by
    rw [insL]; split
    · exact List.Perm.refl _
    · exact ((perm_insL x l).cons y).trans (List.Perm.swap x y l)
theorem perm_isort (l : List β) : (isort lt l).Perm l := by
  refine snoc_ind (p := fun l => (isort lt l).Perm l) (List.Perm.refl _) (fun l x ih => ?_) l
  rw [isort_snoc]; exact (perm_insL x _).trans ((ih.cons x).trans (List.perm_append_singleton x l).symm)
end
section
variable {β : Type} {lt : β → β → Bool}
def cN (P p : List β) (x : β) (r : List β) (j : Nat) : List β := P ++ (p.take j ++ x :: (p.drop j ++ r))
section
variable {P p r : List β} {x : β} {j : Nat}
theorem cN_len (hj : j ≤ p.length) : (cN P p x r j).length = P.length + (p.length + 1 + r.length) := by
  unfold cN
  simp only [List.length_append, List.length_cons, List.length_take, List.length_drop]
  omega
theorem cN_at (hj : j ≤ p.length) {h : P.length + j < (cN P p x r j).length} : (cN P p x r j)[P.length + j] = x := by
  have e : (cN P p x r j)[P.length + j]? = some x := by
    unfold cN
    rw [List.getElem?_append_right (by omega), Nat.add_sub_cancel_left, List.getElem?_append_right (by rw [List.length_take]; omega)]
    simp [Nat.min_eq_left hj]
  exact (List.getElem?_eq_some_iff.1 e).2
theorem cN_pre (h1 : 1 ≤ j) (hj : j ≤ p.length) {h : P.length + j - 1 < (cN P p x r j).length} : (cN P p x r j)[P.length + j - 1] = p[j - 1]'(by omega) := by
  have e : (cN P p x r j)[P.length + j - 1]? = some (p[j - 1]'(by omega)) := by
    unfold cN
    rw [List.getElem?_append_right (by omega), show P.length + j - 1 - P.length = j - 1 by omega, List.getElem?_append_left (by rw [List.length_take]; omega), List.getElem?_take_of_lt (by omega)]
    exact List.getElem?_eq_getElem _
  exact (List.getElem?_eq_some_iff.1 e).2
theorem cN_swap (h1 : 1 ≤ j) (hj : j ≤ p.length) {h : P.length + j < (cN P p x r j).length} {h' : P.length + j - 1 < (cN P p x r j).length} : ((cN P p x r j).set (P.length + j) (cN P p x r j)[P.length + j - 1]).set (P.length + j - 1) (cN P p x r j)[P.length + j] = cN P p x r (j - 1) := by
  rw [cN_at hj, cN_pre h1 hj]
  obtain ⟨m, rfl⟩ : ∃ m, j = m + 1 := ⟨j - 1, by omega⟩
  simp only [Nat.add_sub_cancel]
  have hA : (p.take m).length = m := by rw [List.length_take]; omega
  have e1 : cN P p x r (m + 1) = P ++ (p.take m ++ p[m] :: x :: (p.drop (m + 1) ++ r)) := by
    unfold cN
    rw [List.take_succ_eq_append_getElem (by omega), List.append_assoc]; rfl
  have e2 : cN P p x r m = P ++ (p.take m ++ x :: p[m] :: (p.drop (m + 1) ++ r)) := by
    unfold cN
    rw [List.drop_eq_getElem_cons (by omega : m < p.length)]; rfl
  rw [e1, e2, List.set_append_right _ _ (by omega), List.set_append_right _ _ (by omega), List.set_append_right _ _ (by omega), List.set_append_right _ _ (by omega), hA]
  rw [show P.length + (m + 1) - P.length - m = 1 by omega, show P.length + (m + 1) - 1 - P.length - m = 0 by omega]
  rfl
theorem cN_start {S R : List β} {k : Nat} (hk : k < S.length) : P ++ (isort lt (S.take k) ++ (S.drop k ++ R)) = cN P (isort lt (S.take k)) S[k] (S.drop (k + 1) ++ R) k := by
  unfold cN
  have hl : (isort lt (S.take k)).length = k := by rw [isort_len, List.length_take]; omega
  rw [List.take_of_length_le (l := isort lt (S.take k)) (by omega), List.drop_of_length_le (l := isort lt (S.take k)) (by omega), List.nil_append, List.drop_eq_getElem_cons hk]
  rfl
theorem cN_end (ho : Ord lt) (hi : ∀ x, lt x x = false) {S R : List β} {k : Nat} (hk : k < S.length) (hj : j ≤ k) (h1 : ∀ i : Nat, j ≤ i → (h : i < (isort lt (S.take k)).length) → lt S[k] (isort lt (S.take k))[i] = true) (h2 : j = 0 ∨ ∀ h : j - 1 < (isort lt (S.take k)).length, lt S[k] (isort lt (S.take k))[j - 1] = false) :
    cN P (isort lt (S.take k)) S[k] (S.drop (k + 1) ++ R) j = P ++ (isort lt (S.take (k + 1)) ++ (S.drop (k + 1) ++ R)) := by
  have hl : (isort lt (S.take k)).length = k := by rw [isort_len, List.length_take]; omega
  rw [List.take_succ_eq_append_getElem hk, isort_snoc, ins_scan ho (sorted_isort ho hi _) (by omega) h1 h2]
  unfold cN
  rw [List.append_assoc]; rfl
theorem cN_first {S R : List β} : P ++ (S ++ R) = P ++ (isort lt (S.take 1) ++ (S.drop 1 ++ R)) := by cases S <;> rfl
end
/-- two stretches of the same length change places, so far k of each -/
def sw2 (P X M Y R : List β) (k : Nat) : List β := P ++ ((Y.take k ++ X.drop k) ++ (M ++ ((X.take k ++ Y.drop k) ++ R)))
section
variable {P X M Y R : List β} {k : Nat}
theorem sw2_len (hk : k ≤ X.length) (hl : X.length = Y.length) : (sw2 P X M Y R k).length = P.length + X.length + M.length + Y.length + R.length := by
  unfold sw2
  simp only [List.length_append, List.length_take, List.length_drop]
  omega
theorem sw2_eq (hk : k < X.length) (hl : X.length = Y.length) : sw2 P X M Y R k = (P ++ Y.take k) ++ X[k] :: ((X.drop (k + 1) ++ (M ++ X.take k)) ++ Y[k] :: (Y.drop (k + 1) ++ R)) := by
  unfold sw2
  rw [List.drop_eq_getElem_cons hk, List.drop_eq_getElem_cons (show k < Y.length by omega)]
  simp only [List.append_assoc, List.cons_append]
theorem set_two {A B C : List β} {a b u v : β} {i j : Nat} (hi : i = A.length) (hj : j = A.length + 1 + B.length) : ((A ++ a :: (B ++ b :: C)).set i u).set j v = A ++ u :: (B ++ v :: C) := by
  subst hi hj
  rw [List.set_append_right _ _ (Nat.le_refl _), Nat.sub_self, List.set_cons_zero, List.set_append_right _ _ (by omega), show A.length + 1 + B.length - A.length = B.length + 1 by omega, List.set_cons_succ, List.set_append_right _ _ (Nat.le_refl _), Nat.sub_self, List.set_cons_zero]
theorem get_two1 {A B C : List β} {a b : β} {i : Nat} (hi : i = A.length) : (A ++ a :: (B ++ b :: C))[i]? = some a := by
  subst hi
  rw [List.getElem?_append_right (Nat.le_refl _), Nat.sub_self]; rfl
theorem get_two2 {A B C : List β} {a b : β} {j : Nat} (hj : j = A.length + 1 + B.length) : (A ++ a :: (B ++ b :: C))[j]? = some b := by
  subst hj
  rw [List.getElem?_append_right (by omega), show A.length + 1 + B.length - A.length = B.length + 1 by omega, List.getElem?_cons_succ, List.getElem?_append_right (Nat.le_refl _), Nat.sub_self]; rfl
theorem sw2_step (hk : k < X.length) (hl : X.length = Y.length) {h1 : P.length + k < (sw2 P X M Y R k).length} {h2 : P.length + X.length + M.length + k < (sw2 P X M Y R k).length} : ((sw2 P X M Y R k).set (P.length + k) (sw2 P X M Y R k)[P.length + X.length + M.length + k]).set (P.length + X.length + M.length + k) (sw2 P X M Y R k)[P.length + k] = sw2 P X M Y R (k + 1) := by
  have hi : P.length + k = (P ++ Y.take k).length := by rw [List.length_append, List.length_take]; omega
  have hj : P.length + X.length + M.length + k = (P ++ Y.take k).length + 1 + (X.drop (k + 1) ++ (M ++ X.take k)).length := by
    simp only [List.length_append, List.length_take, List.length_drop]; omega
  have e := sw2_eq (P := P) (M := M) (R := R) hk hl
  have e1 : (sw2 P X M Y R k)[P.length + k] = X[k] := by
    have : (sw2 P X M Y R k)[P.length + k]? = some X[k] := by rw [e]; exact get_two1 hi
    exact (List.getElem?_eq_some_iff.1 this).2
  have e2 : (sw2 P X M Y R k)[P.length + X.length + M.length + k] = Y[k] := by
    have : (sw2 P X M Y R k)[P.length + X.length + M.length + k]? = some Y[k] := by rw [e]; exact get_two2 hj
    exact (List.getElem?_eq_some_iff.1 this).2
  rw [e1, e2, e, set_two hi hj]
  unfold sw2
  rw [List.take_succ_eq_append_getElem hk, List.take_succ_eq_append_getElem (show k < Y.length by omega)]
  simp only [List.append_assoc, List.cons_append, List.nil_append]
theorem sw2_zero : sw2 P X M Y R 0 = P ++ (X ++ (M ++ (Y ++ R))) := by unfold sw2; simp
theorem sw2_all (hl : X.length = Y.length) (hk : k = X.length) : sw2 P X M Y R k = P ++ (Y ++ (M ++ (X ++ R))) := by
  subst hk
  unfold sw2
  rw [List.take_length, List.drop_length, hl, List.take_length, List.drop_length]; simp
end
/-- the first t pieces of length s, each in order -/
def chunks (lt : β → β → Bool) (s : Nat) : Nat → List β → List β
  | 0, _ => []
  | t + 1, l => isort lt (l.take s) ++ chunks lt s t (l.drop s)
def full (lt : β → β → Bool) (s : Nat) (l : List β) : List β := if h : 0 < s ∧ s ≤ l.length then isort lt (l.take s) ++ full lt s (l.drop s) else isort lt l
termination_by l.length
decreasing_by rw [List.length_drop]; omega
section
variable {s t : Nat} {l : List β}
theorem full_step (h0 : 0 < s) (h : s ≤ l.length) : full lt s l = isort lt (l.take s) ++ full lt s (l.drop s) := by
  conv => lhs; unfold full
  rw [dif_pos ⟨h0, h⟩]
theorem full_small (h : l.length < s) : full lt s l = isort lt l := by
  unfold full
  rw [dif_neg (by omega)]
theorem full_le (h0 : 0 < s) (h : l.length ≤ s) : full lt s l = isort lt l := by
  by_cases e : l.length < s
  · exact full_small e
  · rw [full_step h0 (by omega), List.take_of_length_le h, List.drop_of_length_le h, full_small (by simpa using h0)]
    exact List.append_nil _
theorem chunks_snoc : ∀ {t : Nat} {l : List β}, chunks lt s (t + 1) l = chunks lt s t l ++ isort lt ((l.drop (s * t)).take s)
  | 0, l => by simp [chunks]
  | t + 1, l => by
    rw [chunks, chunks_snoc (t := t), chunks, List.append_assoc, List.drop_drop, show s + s * t = s * (t + 1) by rw [Nat.mul_succ]; omega]
theorem full_chunks (h0 : 0 < s) : ∀ {t : Nat} {l : List β}, s * t ≤ l.length → full lt s l = chunks lt s t l ++ full lt s (l.drop (s * t))
  | 0, l, _ => by simp [chunks]
  | t + 1, l, h => by
    rw [Nat.mul_succ] at h
    rw [full_step h0 (by omega), full_chunks h0 (t := t) (by rw [List.length_drop]; omega), chunks, List.append_assoc, List.drop_drop, show s + s * t = s * (t + 1) by rw [Nat.mul_succ]; omega]
theorem chunks_len : ∀ {t : Nat} {l : List β}, s * t ≤ l.length → (chunks lt s t l).length = s * t
  | 0, l, _ => rfl
  | t + 1, l, h => by
    rw [Nat.mul_succ] at h ⊢
    rw [chunks, List.length_append, isort_len, chunks_len (by rw [List.length_drop]; omega), List.length_take]; omega
theorem full_len : ∀ (n : Nat) {l : List β}, l.length ≤ n → (full lt s l).length = l.length
  | 0, l, h => by
    by_cases e : 0 < s ∧ s ≤ l.length
    · omega
    · unfold full; rw [dif_neg e, isort_len]
  | n + 1, l, h => by
    by_cases e : 0 < s ∧ s ≤ l.length
    · rw [full_step e.1 e.2, List.length_append, isort_len, full_len n (by rw [List.length_drop]; omega), List.length_take, List.length_drop]; omega
    · unfold full; rw [dif_neg e, isort_len]
/-- two pieces become one -/
theorem two_one (ho : Ord lt) {D : List β} (h0 : 0 < s) (h : 2 * s ≤ D.length) : full lt s D = isort lt (D.take s) ++ (isort lt ((D.drop s).take s) ++ full lt s (D.drop (2 * s))) ∧ mergeL lt (isort lt (D.take s)) (isort lt ((D.drop s).take s)) = isort lt (D.take (2 * s)) := by
  refine ⟨?_, ?_⟩
  · rw [full_step h0 (by omega), full_step h0 (by rw [List.length_drop]; omega), List.drop_drop, show s + s = 2 * s by omega]
  · rw [← isort_app ho]
    congr 1
    rw [show 2 * s = s + s by omega, List.take_add]
theorem two_end (ho : Ord lt) {D : List β} (h0 : 0 < s) (h : s < D.length) (h2 : D.length < 2 * s) : full lt s D = isort lt (D.take s) ++ isort lt (D.drop s) ∧ mergeL lt (isort lt (D.take s)) (isort lt (D.drop s)) = isort lt D := by
  refine ⟨?_, ?_⟩
  · rw [full_step h0 (by omega), full_small (l := D.drop s) (by rw [List.length_drop]; omega)]
  · rw [← isort_app ho, List.take_append_drop]
end
end
section
variable {β : Type} {lt : β → β → Bool}
theorem sorted_get {l : List β} (h : sortedL lt l) {i j : Nat} {x y : β} (hij : i < j) (hx : l[i]? = some x) (hy : l[j]? = some y) : lt y x = false := by
  obtain ⟨h1, rfl⟩ := List.getElem?_eq_some_iff.1 hx
  obtain ⟨h2, rfl⟩ := List.getElem?_eq_some_iff.1 hy
  exact sorted_at h hij h2
theorem below_all (ho : Ord lt) {B : List β} (hs : sortedL lt B) {t : Nat} {x y : β} (ht : B[t]? = some y) (h : lt y x = true) : ∀ (s : Nat) (z : β), s ≤ t → B[s]? = some z → lt z x = true := fun s z hst hz => by
  by_cases e : s = t
  · subst e; rw [ht] at hz; injection hz with hz; subst hz; exact h
  · cases k : lt z x with
    | true => rfl
    | false => have := ho.ntrans k (sorted_get hs (by omega : s < t) hz ht); rw [h] at this; cases this
theorem above_none (ho : Ord lt) {B : List β} (hs : sortedL lt B) {t : Nat} {x y : β} (ht : B[t]? = some y) (h : lt y x = false) : ∀ (s : Nat) (z : β), t ≤ s → B[s]? = some z → lt z x = false := fun s z hst hz => by
  by_cases e : s = t
  · subst e; rw [ht] at hz; injection hz with hz; subst hz; exact h
  · exact ho.ntrans h (sorted_get hs (by omega : t < s) ht hz)
theorem left_none (ho : Ord lt) {A : List β} (hs : sortedL lt A) {t : Nat} {x y : β} (ht : A[t]? = some x) (h : lt y x = false) : ∀ (s : Nat) (z : β), s ≤ t → A[s]? = some z → lt y z = false := fun s z hst hz => by
  by_cases e : s = t
  · subst e; rw [ht] at hz; injection hz with hz; subst hz; exact h
  · exact ho.ntrans (sorted_get hs (by omega : s < t) hz ht) h
theorem right_all (ho : Ord lt) {A : List β} (hs : sortedL lt A) {t : Nat} {x y : β} (ht : A[t]? = some x) (h : lt y x = true) : ∀ (s : Nat) (z : β), t ≤ s → A[s]? = some z → lt y z = true := fun s z hst hz => by
  by_cases e : s = t
  · subst e; rw [ht] at hz; injection hz with hz; subst hz; exact h
  · cases k : lt y z with
    | true => rfl
    | false => have := ho.ntrans (sorted_get hs (by omega : t < s) ht hz) k; rw [h] at this; cases this
theorem mem_take_get {l : List β} {k : Nat} {x : β} (h : x ∈ l.take k) : ∃ i, i < k ∧ l[i]? = some x := by
  obtain ⟨i, hi, e⟩ := List.mem_iff_getElem.1 h
  rw [List.length_take] at hi
  rw [List.getElem_take] at e
  exact ⟨i, by omega, List.getElem?_eq_some_iff.2 ⟨by omega, e⟩⟩
theorem mem_drop_get {l : List β} {k : Nat} {x : β} (h : x ∈ l.drop k) : ∃ i, k ≤ i ∧ l[i]? = some x := by
  obtain ⟨i, hi, e⟩ := List.mem_iff_getElem.1 h
  rw [List.length_drop] at hi
  rw [List.getElem_drop] at e
  exact ⟨k + i, by omega, List.getElem?_eq_some_iff.2 ⟨by omega, e⟩⟩
theorem merge_left {x : β} {B : List β} {k : Nat} (h1 : ∀ (t : Nat) (z : β), t < k → B[t]? = some z → lt z x = true) (h2 : ∀ (t : Nat) (z : β), k ≤ t → B[t]? = some z → lt z x = false) : mergeL lt [x] B = B.take k ++ x :: B.drop k := by
  have e := merge_split (lt := lt) (A1 := []) (A2 := [x]) (B1 := B.take k) (B2 := B.drop k) (fun u hu v hv => by
    rw [List.mem_singleton] at hu; subst hu
    obtain ⟨i, k1, k2⟩ := mem_take_get hv
    exact h1 i v k1 k2) (by simp)
  rw [List.nil_append, List.take_append_drop, nil_mergeL] at e
  rw [e]
  congr 1
  cases hd : B.drop k with
  | nil => exact mergeL_nil _
  | cons y l =>
    have : B[k]? = some y := by
      have := congrArg (fun l => l[0]?) hd
      simpa [List.getElem?_drop] using this
    rw [mergeL_cons, if_neg (by rw [h2 k y (Nat.le_refl _) this]; simp), nil_mergeL]
theorem merge_right {y : β} {A : List β} {k : Nat} (h1 : ∀ (t : Nat) (z : β), t < k → A[t]? = some z → lt y z = false) (h2 : ∀ (t : Nat) (z : β), k ≤ t → A[t]? = some z → lt y z = true) : mergeL lt A [y] = A.take k ++ y :: A.drop k := by
  have e := merge_split (lt := lt) (A1 := A.take k) (A2 := A.drop k) (B1 := []) (B2 := [y]) (by simp) (fun u hu v hv => by
    rw [List.mem_singleton] at hv; subst hv
    obtain ⟨i, k1, k2⟩ := mem_take_get hu
    exact h1 i u k1 k2)
  rw [List.nil_append, List.take_append_drop, mergeL_nil] at e
  rw [e]
  congr 1
  cases hd : A.drop k with
  | nil => exact nil_mergeL _
  | cons x l =>
    have : A[k]? = some x := by
      have := congrArg (fun l => l[0]?) hd
      simpa [List.getElem?_drop] using this
    rw [mergeL_cons, if_pos (h2 k x (Nat.le_refl _) this), mergeL_nil]
theorem cN_up {P p r : List β} {x : β} {j : Nat} (hj : j < p.length) {h : P.length + j < (cN P p x r j).length} {h' : P.length + j + 1 < (cN P p x r j).length} : ((cN P p x r j).set (P.length + j) (cN P p x r j)[P.length + j + 1]).set (P.length + j + 1) (cN P p x r j)[P.length + j] = cN P p x r (j + 1) := by
  have e1 : cN P p x r j = (P ++ p.take j) ++ x :: ([] ++ p[j] :: (p.drop (j + 1) ++ r)) := by
    unfold cN
    rw [List.drop_eq_getElem_cons hj]; simp only [List.append_assoc, List.cons_append, List.nil_append]
  have hi : P.length + j = (P ++ p.take j).length := by rw [List.length_append, List.length_take]; omega
  have hk : P.length + j + 1 = (P ++ p.take j).length + 1 + ([] : List β).length := by rw [List.length_append, List.length_take]; simp; omega
  have g1 : (cN P p x r j)[P.length + j] = x := cN_at (by omega)
  have g2 : (cN P p x r j)[P.length + j + 1] = p[j] := by
    have : (cN P p x r j)[P.length + j + 1]? = some p[j] := by rw [e1]; exact get_two2 hk
    exact (List.getElem?_eq_some_iff.1 this).2
  rw [g1, g2, e1, set_two hi hk]
  unfold cN
  rw [List.take_succ_eq_append_getElem hj]
  simp only [List.append_assoc, List.cons_append, List.nil_append]
/-- where the two halves part -/
theorem sym_part (ho : Ord lt) {A B : List β} (sA : sortedL lt A) (sB : sortedL lt B) {s M lo hi : Nat} (hM : 2 * M ≤ A.length + B.length) (hc : (M < A.length ∧ lo = M - B.length ∧ hi = M ∧ B.length ≤ M) ∨ (A.length ≤ M ∧ lo = 0 ∧ hi = A.length)) (h0 : lo ≤ s) (h1 : s ≤ hi)
    (k1 : ∀ (c : Nat) (x y : β), lo ≤ c → c < s → A[c]? = some x → B[M - 1 - c]? = some y → lt y x = false) (k2 : ∀ (c : Nat) (x y : β), s ≤ c → c < hi → A[c]? = some x → B[M - 1 - c]? = some y → lt y x = true) :
    (∀ x ∈ A.drop s, ∀ y ∈ B.take (M - s), lt y x = true) ∧ (∀ x ∈ A.take s, ∀ y ∈ B.drop (M - s), lt y x = false) := by
  refine ⟨fun x hx y hy => ?_, fun x hx y hy => ?_⟩
  · obtain ⟨i, i1, i2⟩ := mem_drop_get hx
    obtain ⟨j, j1, j2⟩ := mem_take_get hy
    have hil := (List.getElem?_eq_some_iff.1 i2).1
    have hjl := (List.getElem?_eq_some_iff.1 j2).1
    have hsA : s < A.length := by omega
    have hsB : M - 1 - s < B.length := by omega
    have h := k2 s A[s] B[M - 1 - s] (Nat.le_refl _) (by omega) (List.getElem?_eq_getElem hsA) (List.getElem?_eq_getElem hsB)
    have h3 := below_all ho sB (List.getElem?_eq_getElem hsB) h j y (by omega) j2
    exact right_all ho sA (List.getElem?_eq_getElem hsA) h3 i x i1 i2
  · obtain ⟨i, i1, i2⟩ := mem_take_get hx
    obtain ⟨j, j1, j2⟩ := mem_drop_get hy
    have hil := (List.getElem?_eq_some_iff.1 i2).1
    have hjl := (List.getElem?_eq_some_iff.1 j2).1
    have hsA : s - 1 < A.length := by omega
    have hsB : M - s < B.length := by omega
    have h := k1 (s - 1) A[s - 1] B[M - s] (by omega) (by omega) (List.getElem?_eq_getElem hsA) (by rw [show M - 1 - (s - 1) = M - s by omega]; exact List.getElem?_eq_getElem hsB)
    have h3 := above_none ho sB (List.getElem?_eq_getElem hsB) h j y j1 j2
    exact left_none ho sA (List.getElem?_eq_getElem hsA) h3 i x (by omega) i2
theorem sym_lo (ho : Ord lt) {A B : List β} (sA : sortedL lt A) (sB : sortedL lt B) {M c : Nat} {x y : β} (hx : A[c]? = some x) (hy : B[M - 1 - c]? = some y) (h : lt y x = false) : ∀ (d : Nat) (u v : β), d ≤ c → c < M → A[d]? = some u → B[M - 1 - d]? = some v → lt v u = false := fun d u v hd hM hu hv => by
  have h1 := above_none ho sB hy h (M - 1 - d) v (by omega) hv
  exact left_none ho sA hx h1 d u hd hu
theorem sym_hi (ho : Ord lt) {A B : List β} (sA : sortedL lt A) (sB : sortedL lt B) {M c : Nat} {x y : β} (hx : A[c]? = some x) (hy : B[M - 1 - c]? = some y) (h : lt y x = true) : ∀ (d : Nat) (u v : β), c ≤ d → d < M → A[d]? = some u → B[M - 1 - d]? = some v → lt v u = true := fun d u v hd hM hu hv => by
  have h1 := below_all ho sB hy h (M - 1 - d) v (by omega) hv
  exact right_all ho sA hx h1 d u hd hu
theorem at_A {P A B R : List β} {i : Nat} (hi : i < A.length) {l : List β} (e : l = P ++ (A ++ (B ++ R))) {h : P.length + i < l.length} : l[P.length + i] = A[i] := by
  subst e
  have : (P ++ (A ++ (B ++ R)))[P.length + i]? = some A[i] := by
    rw [List.getElem?_append_right (by omega), Nat.add_sub_cancel_left, List.getElem?_append_left hi]; exact List.getElem?_eq_getElem _
  exact (List.getElem?_eq_some_iff.1 this).2
theorem at_B {P A B R : List β} {i : Nat} (hi : i < B.length) {l : List β} (e : l = P ++ (A ++ (B ++ R))) {h : P.length + A.length + i < l.length} : l[P.length + A.length + i] = B[i] := by
  subst e
  have : (P ++ (A ++ (B ++ R)))[P.length + A.length + i]? = some B[i] := by
    rw [List.getElem?_append_right (by omega), show P.length + A.length + i - P.length = A.length + i by omega, List.getElem?_append_right (by omega), Nat.add_sub_cancel_left, List.getElem?_append_left hi]; exact List.getElem?_eq_getElem _
  exact (List.getElem?_eq_some_iff.1 this).2
theorem td {l : List β} {k : Nat} {r : List β} : l.take k ++ (l.drop k ++ r) = l ++ r := by rw [← List.append_assoc, List.take_append_drop]
theorem sorted_take {l : List β} (h : sortedL lt l) (k : Nat) : sortedL lt (l.take k) := List.Pairwise.sublist (List.take_sublist k l) h
theorem sorted_drop {l : List β} (h : sortedL lt l) (k : Nat) : sortedL lt (l.drop k) := List.Pairwise.sublist (List.drop_sublist k l) h
theorem one_eq {l : List β} (h : l.length = 1) (h' : 0 < l.length) : l = [l[0]] := by
  obtain ⟨x, rfl⟩ := List.length_eq_one_iff.1 h; rfl
end
section
variable {β : Type} {lt : β → β → Bool}
/-- both halves parted, and what lies between them changed places -/
theorem sym_cut {A B : List β} {s t : Nat} (h : (∀ x ∈ A.drop s, ∀ y ∈ B.take t, lt y x = true) ∧ (∀ x ∈ A.take s, ∀ y ∈ B.drop t, lt y x = false)) : mergeL lt A B = mergeL lt (A.take s) (B.take t) ++ mergeL lt (A.drop s) (B.drop t) := by
  have e := merge_split (lt := lt) (A1 := A.take s) (A2 := A.drop s) (B1 := B.take t) (B2 := B.drop t) h.1 h.2
  rwa [List.take_append_drop, List.take_append_drop] at e
theorem merge_e1 {A B : List β} (h : A.length = 0) : mergeL lt A B = A ++ B := by
  rw [List.length_eq_zero_iff.1 h, nil_mergeL]; rfl
theorem merge_e2 {A B : List β} (h : B.length = 0) : mergeL lt A B = A ++ B := by
  rw [List.length_eq_zero_iff.1 h, mergeL_nil, List.append_nil]
theorem merge_e {A B : List β} (h : A.length = 0 ∨ B.length = 0) : mergeL lt A B = A ++ B := h.elim merge_e1 merge_e2
theorem swap_e {X Y R : List β} (h : X.length = 0 ∨ Y.length = 0) : X ++ (Y ++ R) = Y ++ (X ++ R) := by
  rcases h with h | h <;> rw [List.length_eq_zero_iff.1 h] <;> rfl
/-- the content after each of the three steps -/
def sy0 (P A B R : List β) (s t : Nat) : List β := P ++ (A.take s ++ (A.drop s ++ (B.take t ++ (B.drop t ++ R))))
def sy1 (P A B R : List β) (s t : Nat) : List β := P ++ (A.take s ++ (B.take t ++ (A.drop s ++ (B.drop t ++ R))))
def sy2 (lt : β → β → Bool) (P A B R : List β) (s t : Nat) : List β := P ++ (mergeL lt (A.take s) (B.take t) ++ (A.drop s ++ (B.drop t ++ R)))
def sy3 (lt : β → β → Bool) (P A B R : List β) (s t : Nat) : List β := P ++ (mergeL lt (A.take s) (B.take t) ++ (mergeL lt (A.drop s) (B.drop t) ++ R))
theorem sy0_eq {P A B R : List β} {s t : Nat} : P ++ (A ++ (B ++ R)) = sy0 P A B R s t := by
  unfold sy0; rw [← List.append_assoc (A.take s), List.take_append_drop, ← List.append_assoc (B.take t), List.take_append_drop]
theorem sy1_eq {P A B R : List β} {s t : Nat} (h : (A.drop s).length = 0 ∨ (B.take t).length = 0) : sy0 P A B R s t = sy1 P A B R s t := by unfold sy0 sy1; rw [swap_e h]
theorem sy2_eq {P A B R : List β} {s t : Nat} (h : (A.take s).length = 0 ∨ (B.take t).length = 0) : sy1 P A B R s t = sy2 lt P A B R s t := by unfold sy1 sy2; rw [merge_e h]; simp only [List.append_assoc]
theorem sy3_eq {P A B R : List β} {s t : Nat} (h : (A.drop s).length = 0 ∨ (B.drop t).length = 0) : sy2 lt P A B R s t = sy3 lt P A B R s t := by unfold sy2 sy3; rw [merge_e h]; simp only [List.append_assoc]
theorem sy_end {P A B R : List β} {s t : Nat} (h : (∀ x ∈ A.drop s, ∀ y ∈ B.take t, lt y x = true) ∧ (∀ x ∈ A.take s, ∀ y ∈ B.drop t, lt y x = false)) : sy3 lt P A B R s t = P ++ (mergeL lt A B ++ R) := by unfold sy3; rw [sym_cut h]; simp only [List.append_assoc]
theorem sy_rot {P A B R : List β} {s t : Nat} : sy0 P A B R s t = (P ++ A.take s) ++ (A.drop s ++ (B.take t ++ (B.drop t ++ R))) := by unfold sy0; simp only [List.append_assoc]
theorem sy_rot' {P A B R : List β} {s t : Nat} : (P ++ A.take s) ++ (B.take t ++ (A.drop s ++ (B.drop t ++ R))) = sy1 P A B R s t := by unfold sy1; simp only [List.append_assoc]
theorem sy_r2 {P A B R : List β} {s t : Nat} : sy2 lt P A B R s t = (P ++ mergeL lt (A.take s) (B.take t)) ++ (A.drop s ++ (B.drop t ++ R)) := by unfold sy2; simp only [List.append_assoc]
theorem sy_r2' {P A B R : List β} {s t : Nat} : (P ++ mergeL lt (A.take s) (B.take t)) ++ (mergeL lt (A.drop s) (B.drop t) ++ R) = sy3 lt P A B R s t := by unfold sy3; simp only [List.append_assoc]
/-- pieces of the length s become pieces of the length 2 * s -/
def stp (lt : β → β → Bool) (s t u : Nat) (l : List β) : List β := chunks lt (2 * s) t l ++ full lt s (l.drop u)
theorem stp_zero {s : Nat} {l : List β} : full lt s l = stp lt s 0 0 l := rfl
theorem stp_at (ho : Ord lt) {s t u : Nat} {l : List β} (h0 : 0 < s) (h : u + 2 * s ≤ l.length) : stp lt s t u l = chunks lt (2 * s) t l ++ (isort lt ((l.drop u).take s) ++ (isort lt (((l.drop u).drop s).take s) ++ full lt s (l.drop (u + 2 * s)))) := by
  unfold stp
  rw [(two_one ho h0 (D := l.drop u) (by rw [List.length_drop]; omega)).1]
  simp only [List.drop_drop]
theorem stp_next (ho : Ord lt) {s t u : Nat} {l : List β} (h0 : 0 < s) (hu : u = 2 * s * t) (h : u + 2 * s ≤ l.length) : chunks lt (2 * s) t l ++ (mergeL lt (isort lt ((l.drop u).take s)) (isort lt (((l.drop u).drop s).take s)) ++ full lt s (l.drop (u + 2 * s))) = stp lt s (t + 1) (u + 2 * s) l := by
  unfold stp
  rw [(two_one ho h0 (D := l.drop u) (by rw [List.length_drop]; omega)).2, chunks_snoc, ← hu, List.append_assoc]
theorem stp_last (ho : Ord lt) {s t u : Nat} {l : List β} (h0 : 0 < s) (h : u + s < l.length) (h2 : l.length < u + 2 * s) : stp lt s t u l = chunks lt (2 * s) t l ++ (isort lt ((l.drop u).take s) ++ (isort lt ((l.drop u).drop s) ++ [])) := by
  unfold stp
  rw [(two_end ho h0 (D := l.drop u) (by rw [List.length_drop]; omega) (by rw [List.length_drop]; omega)).1, List.append_nil]
theorem stp_end1 (ho : Ord lt) {s t u : Nat} {l : List β} (h0 : 0 < s) (hu : u = 2 * s * t) (h : u + s < l.length) (h2 : l.length < u + 2 * s) : chunks lt (2 * s) t l ++ (mergeL lt (isort lt ((l.drop u).take s)) (isort lt ((l.drop u).drop s)) ++ []) = full lt (2 * s) l := by
  rw [(two_end ho h0 (D := l.drop u) (by rw [List.length_drop]; omega) (by rw [List.length_drop]; omega)).2, List.append_nil, full_chunks (s := 2 * s) (by omega) (t := t) (by omega), ← hu, full_small (s := 2 * s) (by rw [List.length_drop]; omega)]
theorem stp_end2 {s t u : Nat} {l : List β} (h0 : 0 < s) (hu : u = 2 * s * t) (hul : u ≤ l.length) (h : l.length ≤ u + s) : stp lt s t u l = full lt (2 * s) l := by
  unfold stp
  rw [full_le h0 (l := l.drop u) (by rw [List.length_drop]; omega), full_chunks (s := 2 * s) (by omega) (t := t) (by omega), ← hu, full_small (s := 2 * s) (by rw [List.length_drop]; omega)]
theorem stp_len {s t u : Nat} {l : List β} (hu : u = 2 * s * t) (hul : u ≤ l.length) : (stp lt s t u l).length = l.length := by
  unfold stp
  rw [List.length_append, chunks_len (by omega), full_len _ (Nat.le_refl _), List.length_drop]; omega
theorem fst_at {t : Nat} {l : List β} {s : Nat} : chunks lt s t l ++ l.drop (s * t) = chunks lt s t l ++ ((l.drop (s * t)).take s ++ l.drop (s * (t + 1))) := by
  rw [Nat.mul_succ, ← List.drop_drop, List.take_append_drop]
theorem fst_next {t : Nat} {l : List β} {s : Nat} : chunks lt s t l ++ (isort lt ((l.drop (s * t)).take s) ++ l.drop (s * (t + 1))) = chunks lt s (t + 1) l ++ l.drop (s * (t + 1)) := by
  rw [chunks_snoc, List.append_assoc]
theorem fst_end {t : Nat} {l : List β} {s : Nat} (h0 : 0 < s) (h : s * t ≤ l.length) (h2 : l.length < s * t + s) : chunks lt s t l ++ (isort lt (l.drop (s * t)) ++ []) = full lt s l := by
  rw [List.append_nil, full_chunks h0 h, full_small (l := l.drop (s * t)) (by rw [List.length_drop]; omega)]
theorem cN_one {P A B R : List β} {x : β} (h : A = [x]) : P ++ (A ++ (B ++ R)) = cN P B x R 0 := by subst h; unfold cN; simp
theorem cN_last {P A B R : List β} {x : β} (h : B = [x]) : P ++ (A ++ (B ++ R)) = cN P A x R A.length := by subst h; unfold cN; simp
theorem cN_merge1 (ho : Ord lt) {P A B R : List β} {x : β} {k : Nat} (h : A = [x]) (h1 : ∀ (t : Nat) (z : β), t < k → B[t]? = some z → lt z x = true) (h2 : ∀ (t : Nat) (z : β), k ≤ t → B[t]? = some z → lt z x = false) : cN P B x R k = P ++ (mergeL lt A B ++ R) := by
  subst h
  rw [merge_left h1 h2]; unfold cN; simp only [List.append_assoc, List.cons_append]
theorem cN_merge2 (ho : Ord lt) {P A B R : List β} {y : β} {k : Nat} (h : B = [y]) (h1 : ∀ (t : Nat) (z : β), t < k → A[t]? = some z → lt y z = false) (h2 : ∀ (t : Nat) (z : β), k ≤ t → A[t]? = some z → lt y z = true) : cN P A y R k = P ++ (mergeL lt A B ++ R) := by
  subst h
  rw [merge_right h1 h2]; unfold cN; simp only [List.append_assoc, List.cons_append]
theorem sy1_len {P A B R : List β} {s t : Nat} : (sy1 P A B R s t).length = P.length + (A.length + (B.length + R.length)) := by
  unfold sy1; simp only [List.length_append, List.length_take, List.length_drop]; omega
theorem sy2_len {P A B R : List β} {s t : Nat} : (sy2 lt P A B R s t).length = P.length + (A.length + (B.length + R.length)) := by
  unfold sy2; simp only [List.length_append, mergeL_len, List.length_take, List.length_drop]; omega
end
def ltC {α : Type} (q : α × α → Int) (x y : α × (Nat → Value)) : Bool := decide (q (x.1, y.1) < 0)
theorem ltC_yes {α : Type} {q : α × α → Int} {x y : α × (Nat → Value)} (h : q (x.1, y.1) < 0) : ltC q x y = true := decide_eq_true h
theorem ltC_no {α : Type} {q : α × α → Int} {x y : α × (Nat → Value)} (h : ¬ q (x.1, y.1) < 0) : ltC q x y = false := decide_eq_false h
/-! ### comparisons -/
def lessQ {α : Type} (q : α × α → Int) (x y : α) : Bool := decide (q (x, y) < 0)
structure CmpOk {α : Type} (q : α × α → Int) : Prop where
  anti : ∀ x y, q (y, x) = - q (x, y)
  le : ∀ x y z, q (x, y) ≤ 0 → q (y, z) ≤ 0 → q (x, z) ≤ 0
section
variable {α β : Type} {q : α × α → Int}
theorem CmpOk.ord (h : CmpOk q) : Ord (lessQ q) where
  trans {x y z} h1 h2 := by
    have h1 : q (x, y) < 0 := of_decide_eq_true h1
    have h2 : q (y, z) < 0 := of_decide_eq_true h2
    refine decide_eq_true ?_
    have a1 := h.anti x z
    have a2 := h.anti y z
    by_cases k : q (x, z) < 0
    · exact k
    · have := h.le z x y (by omega) (by omega)
      omega
  ntrans {x y z} h1 h2 := by
    have h1 : ¬ q (y, x) < 0 := of_decide_eq_false h1
    have h2 : ¬ q (z, y) < 0 := of_decide_eq_false h2
    refine decide_eq_false ?_
    have a1 := h.anti x y
    have a2 := h.anti y z
    have a3 := h.anti x z
    have := h.le x y z (by omega) (by omega)
    omega
theorem CmpOk.irr (h : CmpOk q) (x : α) : lessQ q x x = false := by
  have := h.anti x x
  exact decide_eq_false (by omega)
theorem CmpOk.ordC (h : CmpOk q) : Ord (ltC q) := ⟨fun {x y z} h1 h2 => h.ord.trans (x := x.1) (y := y.1) (z := z.1) h1 h2, fun {x y z} h1 h2 => h.ord.ntrans (x := x.1) (y := y.1) (z := z.1) h1 h2⟩
theorem CmpOk.irrC (h : CmpOk q) (x : α × (Nat → Value)) : ltC q x x = false := h.irr x.1
theorem CmpOk.comap (f : β → α) (h : CmpOk q) : CmpOk fun p : β × β => q (f p.1, f p.2) := ⟨fun x y => h.anti (f x) (f y), fun x y z => h.le (f x) (f y) (f z)⟩
theorem insL_map (f : β → α) {l1 : β → β → Bool} {l2 : α → α → Bool} (h : ∀ x y, l1 x y = l2 (f x) (f y)) (x : β) : ∀ l : List β, (insL l1 x l).map f = insL l2 (f x) (l.map f)
  | [] => rfl
  | y :: l => by
    rw [insL, List.map_cons, insL, ← h]
    split
    · rfl
    · rw [List.map_cons, insL_map f h x l]
theorem isort_map (f : β → α) {l1 : β → β → Bool} {l2 : α → α → Bool} (h : ∀ x y, l1 x y = l2 (f x) (f y)) (l : List β) : (isort l1 l).map f = isort l2 (l.map f) := by
  refine snoc_ind (p := fun l => (isort l1 l).map f = isort l2 (l.map f)) rfl (fun l x ih => ?_) l
  rw [isort_snoc, insL_map f h, ih, List.map_append, List.map_singleton, isort_snoc]
theorem isortC (zs : List (α × (Nat → Value))) : (isort (ltC q) zs).map Prod.fst = isort (lessQ q) (zs.map Prod.fst) := isort_map (l1 := ltC q) (l2 := lessQ q) Prod.fst (fun _ _ => rfl) zs
end
def lexI (u v r : Int) : Int := if u < v then -1 else if v < u then 1 else r
def cmpI (u v : Int) : Int := lexI u v 0
theorem lex_ok {α : Type} (k : α → Int) {r : α × α → Int} (h : CmpOk r) : CmpOk fun p => lexI (k p.1) (k p.2) (r p) := ⟨fun x y => by
    have := h.anti x y
    show lexI (k y) (k x) (r (y, x)) = - lexI (k x) (k y) (r (x, y))
    unfold lexI
    repeat' split
    all_goals omega, fun x y z => by
    have := h.le x y z
    show lexI (k x) (k y) (r (x, y)) ≤ 0 → lexI (k y) (k z) (r (y, z)) ≤ 0 → lexI (k x) (k z) (r (x, z)) ≤ 0
    unfold lexI
    repeat' split
    all_goals (intro h1 h2; omega)⟩
def cmpL : List Int → List Int → Int
  | [], [] => 0
  | [], _ :: _ => -1
  | _ :: _, [] => 1
  | x :: a, y :: b => lexI x y (cmpL a b)
theorem cmpL_anti : ∀ a b : List Int, cmpL b a = - cmpL a b
  | [], [] => rfl
  | [], _ :: _ => rfl
  | _ :: _, [] => rfl
  | x :: a, y :: b => by
    have := cmpL_anti a b
    show lexI y x (cmpL b a) = - lexI x y (cmpL a b)
    unfold lexI
    repeat' split
    all_goals omega
theorem cmpL_le : ∀ a b c : List Int, cmpL a b ≤ 0 → cmpL b c ≤ 0 → cmpL a c ≤ 0
  | [], _, [], _, _ => Int.le_refl _
  | [], _, _ :: _, _, _ => by show (-1 : Int) ≤ 0; decide
  | _ :: _, [], _, h, _ => absurd h (by show ¬ (1 : Int) ≤ 0; decide)
  | _ :: _, _ :: _, [], _, h => absurd h (by show ¬ (1 : Int) ≤ 0; decide)
  | x :: a, y :: b, z :: c, h1, h2 => by
    have := cmpL_le a b c
    revert h1 h2
    show lexI x y (cmpL a b) ≤ 0 → lexI y z (cmpL b c) ≤ 0 → lexI x z (cmpL a c) ≤ 0
    unfold lexI
    repeat' split
    all_goals (intro h1 h2; omega)
theorem cmpL_ok : CmpOk fun p => cmpL p.1 p.2 := ⟨cmpL_anti, cmpL_le⟩
section
variable {x y : List Int} {k : Nat}
theorem cmpL_at (hx : k < x.length) (hy : k < y.length) : cmpL (x.drop k) (y.drop k) = lexI x[k] y[k] (cmpL (x.drop (k + 1)) (y.drop (k + 1))) := by
  rw [List.drop_eq_getElem_cons hx, List.drop_eq_getElem_cons hy]; rfl
theorem cmpL_eq (hx : k < x.length) (hy : k < y.length) (h : x[k] = y[k]) : cmpL (x.drop k) (y.drop k) = cmpL (x.drop (k + 1)) (y.drop (k + 1)) := by
  rw [cmpL_at hx hy, h]; unfold lexI; rw [if_neg (by omega), if_neg (by omega)]
theorem cmpL_ne (hx : k < x.length) (hy : k < y.length) (h : ¬ cmpI x[k] y[k] = 0) : cmpL (x.drop k) (y.drop k) = cmpI x[k] y[k] := by
  rw [cmpL_at hx hy]; revert h; unfold cmpI lexI
  repeat' split
  all_goals simp
theorem cmpI_eq {u v : Int} (h : cmpI u v = 0) : u = v := by
  revert h; unfold cmpI lexI
  repeat' split
  all_goals omega
theorem cmpL_long (hx : k < x.length) (hy : y.length ≤ k) : cmpL (x.drop k) (y.drop k) = 1 := by
  rw [List.drop_eq_getElem_cons hx, List.drop_of_length_le hy]; rfl
theorem cmpL_short (hx : x.length ≤ k) (hy : k < y.length) : cmpL (x.drop k) (y.drop k) = -1 := by
  rw [List.drop_eq_getElem_cons hy, List.drop_of_length_le hx]; rfl
theorem cmpL_both (hx : x.length ≤ k) (hy : y.length ≤ k) : cmpL (x.drop k) (y.drop k) = 0 := by
  rw [List.drop_of_length_le hx, List.drop_of_length_le hy]; rfl
end
def cmpRow (p : Row × Row) : Int := lexI p.1.Id p.2.Id (cmpL p.1.Values p.2.Values)
theorem cmpRow_ok : CmpOk cmpRow := lex_ok Row.Id (cmpL_ok.comap Row.Values)
abbrev NRow := Row × (Nat → Value)
def nRow (z : NRow) : List PV := [PV.nv (z.2 0) (PV.val (vI z.1.Id)), PV.nv (z.2 1) (PV.sl .v (z.1.Values.map cInt))]
theorem bor_nRow (z : NRow) : BorL (nRow z) := BorL.cons (PV.bor_nv (PV.bor_val _)) (BorL.cons (PV.bor_nv (PV.bor_sl _)) (BorL.nil))
end Go.Proofs.YtmkhofdkdklpdaaGreat
