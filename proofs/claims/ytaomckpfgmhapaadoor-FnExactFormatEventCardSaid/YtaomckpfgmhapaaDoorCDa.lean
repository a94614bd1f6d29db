/- The types, as they are read. No condition. -/
import Derived.Test.YtaomckpfgmhapaaDoorCF1
set_option linter.unusedVariables false
set_option linter.unusedSimpArgs false
namespace Go.Proofs.YtaomckpfgmhapaaDoor
open Go Go.RowKit M
set_option maxRecDepth 10000

section
variable {α : Type} {P : α → Bool} {xs ys : List α} {k : Nat}
theorem all_zero : (xs.take 0).all P = true := by simp
theorem all_succ (h : (xs.take k).all P = true) (hk : k < xs.length) (hp : P xs[k] = true) : (xs.take (k + 1)).all P = true := by
  rw [List.take_succ_eq_append_getElem hk, List.all_append, h]; simp [hp]
theorem all_no (hk : k < xs.length) (hp : P xs[k] = false) : xs.all P = false := by
  rw [List.all_eq_false]; exact ⟨_, List.getElem_mem hk, by rw [hp]; simp⟩
theorem all_end (h : (xs.take xs.length).all P = true) : xs.all P = true := by rwa [List.take_length] at h
theorem any_succ (h : (xs.take k).any P = false) (hk : k < xs.length) (hp : P xs[k] = false) : (xs.take (k + 1)).any P = false := by
  rw [List.take_succ_eq_append_getElem hk, List.any_append, h]; simp [hp]
theorem any_yes (hk : k < xs.length) (hp : P xs[k] = true) : xs.any P = true := by
  rw [List.any_eq_true]; exact ⟨_, List.getElem_mem hk, hp⟩
theorem any_end (h : (xs.take xs.length).any P = false) : xs.any P = false := by rwa [List.take_length] at h
theorem eq_succ (h : xs.take k = ys.take k) (hk : k < xs.length) (hk' : k < ys.length) (he : xs[k] = ys[k]) : xs.take (k + 1) = ys.take (k + 1) := by
  rw [List.take_succ_eq_append_getElem hk, List.take_succ_eq_append_getElem hk', h, he]
theorem eq_no (hk : k < xs.length) (hk' : k < ys.length) (he : ¬ xs[k] = ys[k]) : ¬ xs = ys := by
  rintro rfl; exact he rfl
theorem eq_end (hl : xs.length = ys.length) (h : xs.take xs.length = ys.take xs.length) : xs = ys := by
  rw [List.take_length] at h; rw [h, hl, List.take_length]
theorem wtk {f : α → Nat} (hk : k < xs.length) : ((xs.take (k + 1)).map f).sum = ((xs.take k).map f).sum + f xs[k] := by
  rw [List.take_succ_eq_append_getElem hk, List.map_append, List.sum_append]; simp
theorem wtk_le {f : α → Nat} (xs : List α) (k : Nat) : ((xs.take k).map f).sum ≤ (xs.map f).sum := by
  have h : xs = xs.take k ++ xs.drop k := (List.take_append_drop _ _).symm
  have e : (xs.map f).sum = ((xs.take k).map f).sum + ((xs.drop k).map f).sum := by
    rw [← List.sum_append, ← List.map_append, ← h]
  omega
theorem wt_mem {f : α → Nat} (hk : k < xs.length) : f xs[k] ≤ (xs.map f).sum := by
  have h1 := wtk (f := f) hk
  have h2 := wtk_le (f := f) xs (k + 1)
  omega
noncomputable def deq (x y : α) : Bool := @decide (x = y) (Classical.propDecidable _)
theorem deq_true {x y : α} (h : x = y) : deq x y = true := @decide_eq_true _ (Classical.propDecidable _) h
theorem deq_false {x y : α} (h : ¬ x = y) : deq x y = false := @decide_eq_false _ (Classical.propDecidable _) h
theorem deq_iff {x y : α} : deq x y = true ↔ x = y := @decide_eq_true_iff _ (Classical.propDecidable _)
theorem deq_self (x : α) : deq x x = true := deq_true rfl
end
def szR (l n : Int) : Int := if n ≤ l then l - n else -1
theorem szR_yes {l n : Int} (h : n ≤ l) : szR l n = l - n := if_pos h
theorem szR_no {l n : Int} (h : l < n) : szR l n = -1 := if_neg (by omega)
theorem szR_neg {l w : Int} (_h0 : 0 ≤ l) (h : szR l w < 0) : l < w := by unfold szR at h; split at h <;> omega
theorem szR_pos {l w : Int} (h : ¬ szR l w < 0) : w ≤ l := by unfold szR at h; split at h <;> omega
theorem us_1 {us : List Value} (h : us.length = 1) : ∃ v0, us = [v0] := by
  rcases us with _ | ⟨v0, _ | ⟨v1, vs⟩⟩ <;> first | exact ⟨_, rfl⟩ | (simp at h; try omega)
theorem us_2 {us : List Value} (h : us.length = 2) : ∃ v0 v1, us = [v0, v1] := by
  rcases us with _ | ⟨v0, _ | ⟨v1, _ | ⟨v2, vs⟩⟩⟩ <;> first | exact ⟨_, _, rfl⟩ | (simp at h; try omega)
theorem us_3 {us : List Value} (h : us.length = 3) : ∃ v0 v1 v2, us = [v0, v1, v2] := by
  rcases us with _ | ⟨v0, _ | ⟨v1, _ | ⟨v2, _ | ⟨v3, vs⟩⟩⟩⟩ <;> first | exact ⟨_, _, _, rfl⟩ | (simp at h; try omega)
theorem us_4 {us : List Value} (h : us.length = 4) : ∃ v0 v1 v2 v3, us = [v0, v1, v2, v3] := by
  rcases us with _ | ⟨v0, _ | ⟨v1, _ | ⟨v2, _ | ⟨v3, _ | ⟨v4, vs⟩⟩⟩⟩⟩ <;> first | exact ⟨_, _, _, _, rfl⟩ | (simp at h; try omega)
theorem us_5 {us : List Value} (h : us.length = 5) : ∃ v0 v1 v2 v3 v4, us = [v0, v1, v2, v3, v4] := by
  rcases us with _ | ⟨v0, _ | ⟨v1, _ | ⟨v2, _ | ⟨v3, _ | ⟨v4, _ | ⟨v5, vs⟩⟩⟩⟩⟩⟩ <;> first | exact ⟨_, _, _, _, _, rfl⟩ | (simp at h; try omega)
theorem us_6 {us : List Value} (h : us.length = 6) : ∃ v0 v1 v2 v3 v4 v5, us = [v0, v1, v2, v3, v4, v5] := by
  rcases us with _ | ⟨v0, _ | ⟨v1, _ | ⟨v2, _ | ⟨v3, _ | ⟨v4, _ | ⟨v5, _ | ⟨v6, vs⟩⟩⟩⟩⟩⟩⟩ <;> first | exact ⟨_, _, _, _, _, _, rfl⟩ | (simp at h; try omega)
theorem us_7 {us : List Value} (h : us.length = 7) : ∃ v0 v1 v2 v3 v4 v5 v6, us = [v0, v1, v2, v3, v4, v5, v6] := by
  rcases us with _ | ⟨v0, _ | ⟨v1, _ | ⟨v2, _ | ⟨v3, _ | ⟨v4, _ | ⟨v5, _ | ⟨v6, _ | ⟨v7, vs⟩⟩⟩⟩⟩⟩⟩⟩ <;> first | exact ⟨_, _, _, _, _, _, _, rfl⟩ | (simp at h; try omega)
theorem us_8 {us : List Value} (h : us.length = 8) : ∃ v0 v1 v2 v3 v4 v5 v6 v7, us = [v0, v1, v2, v3, v4, v5, v6, v7] := by
  rcases us with _ | ⟨v0, _ | ⟨v1, _ | ⟨v2, _ | ⟨v3, _ | ⟨v4, _ | ⟨v5, _ | ⟨v6, _ | ⟨v7, _ | ⟨v8, vs⟩⟩⟩⟩⟩⟩⟩⟩⟩ <;> first | exact ⟨_, _, _, _, _, _, _, _, rfl⟩ | (simp at h; try omega)
theorem us_9 {us : List Value} (h : us.length = 9) : ∃ v0 v1 v2 v3 v4 v5 v6 v7 v8, us = [v0, v1, v2, v3, v4, v5, v6, v7, v8] := by
  rcases us with _ | ⟨v0, _ | ⟨v1, _ | ⟨v2, _ | ⟨v3, _ | ⟨v4, _ | ⟨v5, _ | ⟨v6, _ | ⟨v7, _ | ⟨v8, _ | ⟨v9, vs⟩⟩⟩⟩⟩⟩⟩⟩⟩⟩ <;> first | exact ⟨_, _, _, _, _, _, _, _, _, rfl⟩ | (simp at h; try omega)
theorem us_10 {us : List Value} (h : us.length = 10) : ∃ v0 v1 v2 v3 v4 v5 v6 v7 v8 v9, us = [v0, v1, v2, v3, v4, v5, v6, v7, v8, v9] := by
  rcases us with _ | ⟨v0, _ | ⟨v1, _ | ⟨v2, _ | ⟨v3, _ | ⟨v4, _ | ⟨v5, _ | ⟨v6, _ | ⟨v7, _ | ⟨v8, _ | ⟨v9, _ | ⟨v10, vs⟩⟩⟩⟩⟩⟩⟩⟩⟩⟩⟩ <;> first | exact ⟨_, _, _, _, _, _, _, _, _, _, rfl⟩ | (simp at h; try omega)
theorem us_11 {us : List Value} (h : us.length = 11) : ∃ v0 v1 v2 v3 v4 v5 v6 v7 v8 v9 v10, us = [v0, v1, v2, v3, v4, v5, v6, v7, v8, v9, v10] := by
  rcases us with _ | ⟨v0, _ | ⟨v1, _ | ⟨v2, _ | ⟨v3, _ | ⟨v4, _ | ⟨v5, _ | ⟨v6, _ | ⟨v7, _ | ⟨v8, _ | ⟨v9, _ | ⟨v10, _ | ⟨v11, vs⟩⟩⟩⟩⟩⟩⟩⟩⟩⟩⟩⟩ <;> first | exact ⟨_, _, _, _, _, _, _, _, _, _, _, rfl⟩ | (simp at h; try omega)
theorem us_12 {us : List Value} (h : us.length = 12) : ∃ v0 v1 v2 v3 v4 v5 v6 v7 v8 v9 v10 v11, us = [v0, v1, v2, v3, v4, v5, v6, v7, v8, v9, v10, v11] := by
  rcases us with _ | ⟨v0, _ | ⟨v1, _ | ⟨v2, _ | ⟨v3, _ | ⟨v4, _ | ⟨v5, _ | ⟨v6, _ | ⟨v7, _ | ⟨v8, _ | ⟨v9, _ | ⟨v10, _ | ⟨v11, _ | ⟨v12, vs⟩⟩⟩⟩⟩⟩⟩⟩⟩⟩⟩⟩⟩ <;> first | exact ⟨_, _, _, _, _, _, _, _, _, _, _, _, rfl⟩ | (simp at h; try omega)
theorem us_13 {us : List Value} (h : us.length = 13) : ∃ v0 v1 v2 v3 v4 v5 v6 v7 v8 v9 v10 v11 v12, us = [v0, v1, v2, v3, v4, v5, v6, v7, v8, v9, v10, v11, v12] := by
  rcases us with _ | ⟨v0, _ | ⟨v1, _ | ⟨v2, _ | ⟨v3, _ | ⟨v4, _ | ⟨v5, _ | ⟨v6, _ | ⟨v7, _ | ⟨v8, _ | ⟨v9, _ | ⟨v10, _ | ⟨v11, _ | ⟨v12, _ | ⟨v13, vs⟩⟩⟩⟩⟩⟩⟩⟩⟩⟩⟩⟩⟩⟩ <;> first | exact ⟨_, _, _, _, _, _, _, _, _, _, _, _, _, rfl⟩ | (simp at h; try omega)
theorem us_14 {us : List Value} (h : us.length = 14) : ∃ v0 v1 v2 v3 v4 v5 v6 v7 v8 v9 v10 v11 v12 v13, us = [v0, v1, v2, v3, v4, v5, v6, v7, v8, v9, v10, v11, v12, v13] := by
  rcases us with _ | ⟨v0, _ | ⟨v1, _ | ⟨v2, _ | ⟨v3, _ | ⟨v4, _ | ⟨v5, _ | ⟨v6, _ | ⟨v7, _ | ⟨v8, _ | ⟨v9, _ | ⟨v10, _ | ⟨v11, _ | ⟨v12, _ | ⟨v13, _ | ⟨v14, vs⟩⟩⟩⟩⟩⟩⟩⟩⟩⟩⟩⟩⟩⟩⟩ <;> first | exact ⟨_, _, _, _, _, _, _, _, _, _, _, _, _, _, rfl⟩ | (simp at h; try omega)
theorem us_15 {us : List Value} (h : us.length = 15) : ∃ v0 v1 v2 v3 v4 v5 v6 v7 v8 v9 v10 v11 v12 v13 v14, us = [v0, v1, v2, v3, v4, v5, v6, v7, v8, v9, v10, v11, v12, v13, v14] := by
  rcases us with _ | ⟨v0, _ | ⟨v1, _ | ⟨v2, _ | ⟨v3, _ | ⟨v4, _ | ⟨v5, _ | ⟨v6, _ | ⟨v7, _ | ⟨v8, _ | ⟨v9, _ | ⟨v10, _ | ⟨v11, _ | ⟨v12, _ | ⟨v13, _ | ⟨v14, _ | ⟨v15, vs⟩⟩⟩⟩⟩⟩⟩⟩⟩⟩⟩⟩⟩⟩⟩⟩ <;> first | exact ⟨_, _, _, _, _, _, _, _, _, _, _, _, _, _, _, rfl⟩ | (simp at h; try omega)
theorem us_16 {us : List Value} (h : us.length = 16) : ∃ v0 v1 v2 v3 v4 v5 v6 v7 v8 v9 v10 v11 v12 v13 v14 v15, us = [v0, v1, v2, v3, v4, v5, v6, v7, v8, v9, v10, v11, v12, v13, v14, v15] := by
  rcases us with _ | ⟨v0, _ | ⟨v1, _ | ⟨v2, _ | ⟨v3, _ | ⟨v4, _ | ⟨v5, _ | ⟨v6, _ | ⟨v7, _ | ⟨v8, _ | ⟨v9, _ | ⟨v10, _ | ⟨v11, _ | ⟨v12, _ | ⟨v13, _ | ⟨v14, _ | ⟨v15, _ | ⟨v16, vs⟩⟩⟩⟩⟩⟩⟩⟩⟩⟩⟩⟩⟩⟩⟩⟩⟩ <;> first | exact ⟨_, _, _, _, _, _, _, _, _, _, _, _, _, _, _, _, rfl⟩ | (simp at h; try omega)
theorem us_17 {us : List Value} (h : us.length = 17) : ∃ v0 v1 v2 v3 v4 v5 v6 v7 v8 v9 v10 v11 v12 v13 v14 v15 v16, us = [v0, v1, v2, v3, v4, v5, v6, v7, v8, v9, v10, v11, v12, v13, v14, v15, v16] := by
  rcases us with _ | ⟨v0, _ | ⟨v1, _ | ⟨v2, _ | ⟨v3, _ | ⟨v4, _ | ⟨v5, _ | ⟨v6, _ | ⟨v7, _ | ⟨v8, _ | ⟨v9, _ | ⟨v10, _ | ⟨v11, _ | ⟨v12, _ | ⟨v13, _ | ⟨v14, _ | ⟨v15, _ | ⟨v16, _ | ⟨v17, vs⟩⟩⟩⟩⟩⟩⟩⟩⟩⟩⟩⟩⟩⟩⟩⟩⟩⟩ <;> first | exact ⟨_, _, _, _, _, _, _, _, _, _, _, _, _, _, _, _, _, rfl⟩ | (simp at h; try omega)
theorem us_18 {us : List Value} (h : us.length = 18) : ∃ v0 v1 v2 v3 v4 v5 v6 v7 v8 v9 v10 v11 v12 v13 v14 v15 v16 v17, us = [v0, v1, v2, v3, v4, v5, v6, v7, v8, v9, v10, v11, v12, v13, v14, v15, v16, v17] := by
  rcases us with _ | ⟨v0, _ | ⟨v1, _ | ⟨v2, _ | ⟨v3, _ | ⟨v4, _ | ⟨v5, _ | ⟨v6, _ | ⟨v7, _ | ⟨v8, _ | ⟨v9, _ | ⟨v10, _ | ⟨v11, _ | ⟨v12, _ | ⟨v13, _ | ⟨v14, _ | ⟨v15, _ | ⟨v16, _ | ⟨v17, _ | ⟨v18, vs⟩⟩⟩⟩⟩⟩⟩⟩⟩⟩⟩⟩⟩⟩⟩⟩⟩⟩⟩ <;> first | exact ⟨_, _, _, _, _, _, _, _, _, _, _, _, _, _, _, _, _, _, rfl⟩ | (simp at h; try omega)
theorem us_19 {us : List Value} (h : us.length = 19) : ∃ v0 v1 v2 v3 v4 v5 v6 v7 v8 v9 v10 v11 v12 v13 v14 v15 v16 v17 v18, us = [v0, v1, v2, v3, v4, v5, v6, v7, v8, v9, v10, v11, v12, v13, v14, v15, v16, v17, v18] := by
  rcases us with _ | ⟨v0, _ | ⟨v1, _ | ⟨v2, _ | ⟨v3, _ | ⟨v4, _ | ⟨v5, _ | ⟨v6, _ | ⟨v7, _ | ⟨v8, _ | ⟨v9, _ | ⟨v10, _ | ⟨v11, _ | ⟨v12, _ | ⟨v13, _ | ⟨v14, _ | ⟨v15, _ | ⟨v16, _ | ⟨v17, _ | ⟨v18, _ | ⟨v19, vs⟩⟩⟩⟩⟩⟩⟩⟩⟩⟩⟩⟩⟩⟩⟩⟩⟩⟩⟩⟩ <;> first | exact ⟨_, _, _, _, _, _, _, _, _, _, _, _, _, _, _, _, _, _, _, rfl⟩ | (simp at h; try omega)
theorem us_20 {us : List Value} (h : us.length = 20) : ∃ v0 v1 v2 v3 v4 v5 v6 v7 v8 v9 v10 v11 v12 v13 v14 v15 v16 v17 v18 v19, us = [v0, v1, v2, v3, v4, v5, v6, v7, v8, v9, v10, v11, v12, v13, v14, v15, v16, v17, v18, v19] := by
  rcases us with _ | ⟨v0, _ | ⟨v1, _ | ⟨v2, _ | ⟨v3, _ | ⟨v4, _ | ⟨v5, _ | ⟨v6, _ | ⟨v7, _ | ⟨v8, _ | ⟨v9, _ | ⟨v10, _ | ⟨v11, _ | ⟨v12, _ | ⟨v13, _ | ⟨v14, _ | ⟨v15, _ | ⟨v16, _ | ⟨v17, _ | ⟨v18, _ | ⟨v19, _ | ⟨v20, vs⟩⟩⟩⟩⟩⟩⟩⟩⟩⟩⟩⟩⟩⟩⟩⟩⟩⟩⟩⟩⟩ <;> first | exact ⟨_, _, _, _, _, _, _, _, _, _, _, _, _, _, _, _, _, _, _, _, rfl⟩ | (simp at h; try omega)
theorem us_21 {us : List Value} (h : us.length = 21) : ∃ v0 v1 v2 v3 v4 v5 v6 v7 v8 v9 v10 v11 v12 v13 v14 v15 v16 v17 v18 v19 v20, us = [v0, v1, v2, v3, v4, v5, v6, v7, v8, v9, v10, v11, v12, v13, v14, v15, v16, v17, v18, v19, v20] := by
  rcases us with _ | ⟨v0, _ | ⟨v1, _ | ⟨v2, _ | ⟨v3, _ | ⟨v4, _ | ⟨v5, _ | ⟨v6, _ | ⟨v7, _ | ⟨v8, _ | ⟨v9, _ | ⟨v10, _ | ⟨v11, _ | ⟨v12, _ | ⟨v13, _ | ⟨v14, _ | ⟨v15, _ | ⟨v16, _ | ⟨v17, _ | ⟨v18, _ | ⟨v19, _ | ⟨v20, _ | ⟨v21, vs⟩⟩⟩⟩⟩⟩⟩⟩⟩⟩⟩⟩⟩⟩⟩⟩⟩⟩⟩⟩⟩⟩ <;> first | exact ⟨_, _, _, _, _, _, _, _, _, _, _, _, _, _, _, _, _, _, _, _, _, rfl⟩ | (simp at h; try omega)
theorem us_22 {us : List Value} (h : us.length = 22) : ∃ v0 v1 v2 v3 v4 v5 v6 v7 v8 v9 v10 v11 v12 v13 v14 v15 v16 v17 v18 v19 v20 v21, us = [v0, v1, v2, v3, v4, v5, v6, v7, v8, v9, v10, v11, v12, v13, v14, v15, v16, v17, v18, v19, v20, v21] := by
  rcases us with _ | ⟨v0, _ | ⟨v1, _ | ⟨v2, _ | ⟨v3, _ | ⟨v4, _ | ⟨v5, _ | ⟨v6, _ | ⟨v7, _ | ⟨v8, _ | ⟨v9, _ | ⟨v10, _ | ⟨v11, _ | ⟨v12, _ | ⟨v13, _ | ⟨v14, _ | ⟨v15, _ | ⟨v16, _ | ⟨v17, _ | ⟨v18, _ | ⟨v19, _ | ⟨v20, _ | ⟨v21, _ | ⟨v22, vs⟩⟩⟩⟩⟩⟩⟩⟩⟩⟩⟩⟩⟩⟩⟩⟩⟩⟩⟩⟩⟩⟩⟩ <;> first | exact ⟨_, _, _, _, _, _, _, _, _, _, _, _, _, _, _, _, _, _, _, _, _, _, rfl⟩ | (simp at h; try omega)
theorem us_23 {us : List Value} (h : us.length = 23) : ∃ v0 v1 v2 v3 v4 v5 v6 v7 v8 v9 v10 v11 v12 v13 v14 v15 v16 v17 v18 v19 v20 v21 v22, us = [v0, v1, v2, v3, v4, v5, v6, v7, v8, v9, v10, v11, v12, v13, v14, v15, v16, v17, v18, v19, v20, v21, v22] := by
  rcases us with _ | ⟨v0, _ | ⟨v1, _ | ⟨v2, _ | ⟨v3, _ | ⟨v4, _ | ⟨v5, _ | ⟨v6, _ | ⟨v7, _ | ⟨v8, _ | ⟨v9, _ | ⟨v10, _ | ⟨v11, _ | ⟨v12, _ | ⟨v13, _ | ⟨v14, _ | ⟨v15, _ | ⟨v16, _ | ⟨v17, _ | ⟨v18, _ | ⟨v19, _ | ⟨v20, _ | ⟨v21, _ | ⟨v22, _ | ⟨v23, vs⟩⟩⟩⟩⟩⟩⟩⟩⟩⟩⟩⟩⟩⟩⟩⟩⟩⟩⟩⟩⟩⟩⟩⟩ <;> first | exact ⟨_, _, _, _, _, _, _, _, _, _, _, _, _, _, _, _, _, _, _, _, _, _, _, rfl⟩ | (simp at h; try omega)
theorem us_24 {us : List Value} (h : us.length = 24) : ∃ v0 v1 v2 v3 v4 v5 v6 v7 v8 v9 v10 v11 v12 v13 v14 v15 v16 v17 v18 v19 v20 v21 v22 v23, us = [v0, v1, v2, v3, v4, v5, v6, v7, v8, v9, v10, v11, v12, v13, v14, v15, v16, v17, v18, v19, v20, v21, v22, v23] := by
  rcases us with _ | ⟨v0, _ | ⟨v1, _ | ⟨v2, _ | ⟨v3, _ | ⟨v4, _ | ⟨v5, _ | ⟨v6, _ | ⟨v7, _ | ⟨v8, _ | ⟨v9, _ | ⟨v10, _ | ⟨v11, _ | ⟨v12, _ | ⟨v13, _ | ⟨v14, _ | ⟨v15, _ | ⟨v16, _ | ⟨v17, _ | ⟨v18, _ | ⟨v19, _ | ⟨v20, _ | ⟨v21, _ | ⟨v22, _ | ⟨v23, _ | ⟨v24, vs⟩⟩⟩⟩⟩⟩⟩⟩⟩⟩⟩⟩⟩⟩⟩⟩⟩⟩⟩⟩⟩⟩⟩⟩⟩ <;> first | exact ⟨_, _, _, _, _, _, _, _, _, _, _, _, _, _, _, _, _, _, _, _, _, _, _, _, rfl⟩ | (simp at h; try omega)
def cInt (x : Int) : List PV := [PV.val (vI x)]
def gdInt (x : Int) : Prop := I64 x
def wtInt (_x : Int) : Nat := 0
def cIntS (o0 : Fl) (x : List Int) : List PV := [PV.sl o0 (x.map cInt)]
def gdIntS (x : List Int) : Prop := ∀ y ∈ x, gdInt y
def wtIntS (x : List Int) : Nat := x.length + (x.map wtInt).sum
structure Cond where
  Field : Int
  Low : Int
  High : Int
def cCond (x : Cond) : List PV := [PV.val (vI x.Field), PV.val (vI x.Low), PV.val (vI x.High)]
def gdCond (x : Cond) : Prop := gdInt x.Field ∧ gdInt x.Low ∧ gdInt x.High
def wtCond (x : Cond) : Nat := wtInt x.Field + wtInt x.Low + wtInt x.High
theorem ext_Cond {x y : Cond} (h0 : x.Field = y.Field) (h1 : x.Low = y.Low) (h2 : x.High = y.High) : x = y := by cases x; cases y; simp_all
structure Charge where
  Segment : Int
  Base : Int
  Ids : List Int
  Tenants : List Int
  Rows : List Int
def cCharge (o0 o1 o2 : Fl) (x : Charge) : List PV := [PV.val (vI x.Segment), PV.val (vI x.Base), PV.sl o0 (x.Ids.map cInt), PV.sl o1 (x.Tenants.map cInt), PV.sl o2 (x.Rows.map cInt)]
def gdCharge (x : Charge) : Prop := gdInt x.Segment ∧ gdInt x.Base ∧ gdIntS x.Ids ∧ gdIntS x.Tenants ∧ gdIntS x.Rows
def wtCharge (x : Charge) : Nat := wtInt x.Segment + wtInt x.Base + wtIntS x.Ids + wtIntS x.Tenants + wtIntS x.Rows
theorem ext_Charge {x y : Charge} (h0 : x.Segment = y.Segment) (h1 : x.Base = y.Base) (h2 : x.Ids = y.Ids) (h3 : x.Tenants = y.Tenants) (h4 : x.Rows = y.Rows) : x = y := by cases x; cases y; simp_all
structure Row where
  Id : Int
  Values : List Int
def cRow (o0 : Fl) (x : Row) : List PV := [PV.val (vI x.Id), PV.sl o0 (x.Values.map cInt)]
def gdRow (x : Row) : Prop := gdInt x.Id ∧ gdIntS x.Values
def wtRow (x : Row) : Nat := wtInt x.Id + wtIntS x.Values
theorem ext_Row {x y : Row} (h0 : x.Id = y.Id) (h1 : x.Values = y.Values) : x = y := by cases x; cases y; simp_all
def cCondS (o0 : Fl) (x : List Cond) : List PV := [PV.sl o0 (x.map cCond)]
def gdCondS (x : List Cond) : Prop := ∀ y ∈ x, gdCond y
def wtCondS (x : List Cond) : Nat := x.length + (x.map wtCond).sum
structure Version where
  Id : Int
  Values : List Int
  Born : Int
  Died : Int
def cVersion (o0 : Fl) (x : Version) : List PV := [PV.val (vI x.Id), PV.sl o0 (x.Values.map cInt), PV.val (vI x.Born), PV.val (vI x.Died)]
def gdVersion (x : Version) : Prop := gdInt x.Id ∧ gdIntS x.Values ∧ gdInt x.Born ∧ gdInt x.Died
def wtVersion (x : Version) : Nat := wtInt x.Id + wtIntS x.Values + wtInt x.Born + wtInt x.Died
theorem ext_Version {x y : Version} (h0 : x.Id = y.Id) (h1 : x.Values = y.Values) (h2 : x.Born = y.Born) (h3 : x.Died = y.Died) : x = y := by cases x; cases y; simp_all
structure Update where
  Kind : Int
  Row : Row
  Field : Int
  Value : Int
def cUpdate (o0 : Fl) (x : Update) : List PV := [PV.val (vI x.Kind), PV.val (vI x.Row.Id), PV.sl o0 (x.Row.Values.map cInt), PV.val (vI x.Field), PV.val (vI x.Value)]
def gdUpdate (x : Update) : Prop := gdInt x.Kind ∧ gdRow x.Row ∧ gdInt x.Field ∧ gdInt x.Value
def wtUpdate (x : Update) : Nat := wtInt x.Kind + wtRow x.Row + wtInt x.Field + wtInt x.Value
theorem ext_Update {x y : Update} (h0 : x.Kind = y.Kind) (h1 : x.Row = y.Row) (h2 : x.Field = y.Field) (h3 : x.Value = y.Value) : x = y := by cases x; cases y; simp_all
def cChargeS (o0 o1 o2 o3 : Fl) (x : List Charge) : List PV := [PV.sl o0 (x.map (cCharge o1 o2 o3))]
def gdChargeS (x : List Charge) : Prop := ∀ y ∈ x, gdCharge y
def wtChargeS (x : List Charge) : Nat := x.length + (x.map wtCharge).sum
structure Query where
  Id : Int
  Tenant : Int
  Conds : List Cond
  Out : List Int
def cQuery (o0 o1 : Fl) (x : Query) : List PV := [PV.val (vI x.Id), PV.val (vI x.Tenant), PV.sl o0 (x.Conds.map cCond), PV.sl o1 (x.Out.map cInt)]
def gdQuery (x : Query) : Prop := gdInt x.Id ∧ gdInt x.Tenant ∧ gdCondS x.Conds ∧ gdIntS x.Out
def wtQuery (x : Query) : Nat := wtInt x.Id + wtInt x.Tenant + wtCondS x.Conds + wtIntS x.Out
theorem ext_Query {x y : Query} (h0 : x.Id = y.Id) (h1 : x.Tenant = y.Tenant) (h2 : x.Conds = y.Conds) (h3 : x.Out = y.Out) : x = y := by cases x; cases y; simp_all
def cVersionS (o0 o1 : Fl) (x : List Version) : List PV := [PV.sl o0 (x.map (cVersion o1))]
def gdVersionS (x : List Version) : Prop := ∀ y ∈ x, gdVersion y
def wtVersionS (x : List Version) : Nat := x.length + (x.map wtVersion).sum
def cRowS (o0 o1 : Fl) (x : List Row) : List PV := [PV.sl o0 (x.map (cRow o1))]
def gdRowS (x : List Row) : Prop := ∀ y ∈ x, gdRow y
def wtRowS (x : List Row) : Nat := x.length + (x.map wtRow).sum
structure Finished where
  Query : Query
  Time : Int
  Steps : Int
  Rows : List Row
def cFinished (o0 o1 o2 o3 : Fl) (x : Finished) : List PV := [PV.val (vI x.Query.Id), PV.val (vI x.Query.Tenant), PV.sl o0 (x.Query.Conds.map cCond), PV.sl o1 (x.Query.Out.map cInt), PV.val (vI x.Time), PV.val (vI x.Steps), PV.sl o2 (x.Rows.map (cRow o3))]
def gdFinished (x : Finished) : Prop := gdQuery x.Query ∧ gdInt x.Time ∧ gdInt x.Steps ∧ gdRowS x.Rows
def wtFinished (x : Finished) : Nat := wtQuery x.Query + wtInt x.Time + wtInt x.Steps + wtRowS x.Rows
theorem ext_Finished {x y : Finished} (h0 : x.Query = y.Query) (h1 : x.Time = y.Time) (h2 : x.Steps = y.Steps) (h3 : x.Rows = y.Rows) : x = y := by cases x; cases y; simp_all
structure Event where
  Kind : Int
  Query : Query
  Limit : Int
  Id : Int
  Update : Update
  Steps : Int
def cEvent (o0 o1 o2 : Fl) (x : Event) : List PV := [PV.val (vI x.Kind), PV.val (vI x.Query.Id), PV.val (vI x.Query.Tenant), PV.sl o0 (x.Query.Conds.map cCond), PV.sl o1 (x.Query.Out.map cInt), PV.val (vI x.Limit), PV.val (vI x.Id), PV.val (vI x.Update.Kind), PV.val (vI x.Update.Row.Id), PV.sl o2 (x.Update.Row.Values.map cInt), PV.val (vI x.Update.Field), PV.val (vI x.Update.Value), PV.val (vI x.Steps)]
def gdEvent (x : Event) : Prop := gdInt x.Kind ∧ gdQuery x.Query ∧ gdInt x.Limit ∧ gdInt x.Id ∧ gdUpdate x.Update ∧ gdInt x.Steps
def wtEvent (x : Event) : Nat := wtInt x.Kind + wtQuery x.Query + wtInt x.Limit + wtInt x.Id + wtUpdate x.Update + wtInt x.Steps
theorem ext_Event {x y : Event} (h0 : x.Kind = y.Kind) (h1 : x.Query = y.Query) (h2 : x.Limit = y.Limit) (h3 : x.Id = y.Id) (h4 : x.Update = y.Update) (h5 : x.Steps = y.Steps) : x = y := by cases x; cases y; simp_all
def cVersionSS (o0 o1 o2 : Fl) (x : List (List Version)) : List PV := [PV.sl o0 (x.map (cVersionS o1 o2))]
def gdVersionSS (x : List (List Version)) : Prop := ∀ y ∈ x, gdVersionS y
def wtVersionSS (x : List (List Version)) : Nat := x.length + (x.map wtVersionS).sum
structure Store where
  Segments : List (List Version)
  Now : Int
def cStore (o0 o1 o2 : Fl) (x : Store) : List PV := [PV.sl o0 (x.Segments.map (cVersionS o1 o2)), PV.val (vI x.Now)]
def gdStore (x : Store) : Prop := gdVersionSS x.Segments ∧ gdInt x.Now
def wtStore (x : Store) : Nat := wtVersionSS x.Segments + wtInt x.Now
theorem ext_Store {x y : Store} (h0 : x.Segments = y.Segments) (h1 : x.Now = y.Now) : x = y := by cases x; cases y; simp_all
theorem fm_succ {α β : Type} {xs : List α} {g : α → List β} {k : Nat} (hk : k < xs.length) : (xs.take (k + 1)).flatMap g = (xs.take k).flatMap g ++ g xs[k] := by
  rw [List.take_succ_eq_append_getElem hk, List.flatMap_append]; simp
theorem fm_le {α β : Type} {xs : List α} {g : α → List β} (h : ∀ x, (g x).length ≤ 1) : (xs.flatMap g).length ≤ xs.length := by
  induction xs with
  | nil => simp
  | cons x xs ih => have := h x; simp only [List.flatMap_cons, List.length_append, List.length_cons]; omega
theorem fm_lek {α β : Type} {xs : List α} {g : α → List β} (h : ∀ x, (g x).length ≤ 1) (k : Nat) : ((xs.take k).flatMap g).length ≤ k := by
  have h1 := fm_le (xs := xs.take k) h
  rw [List.length_take] at h1
  omega
theorem tk_succ {α : Type} {xs : List α} {k : Nat} (hk : k < xs.length) : xs.take (k + 1) = xs.take k ++ [xs[k]] := List.take_succ_eq_append_getElem hk
theorem wt_drop {α : Type} {f : α → Nat} (xs : List α) (n : Nat) : (xs.drop n).length + ((xs.drop n).map f).sum ≤ xs.length + (xs.map f).sum := by
  have e : (xs.map f).sum = ((xs.take n).map f).sum + ((xs.drop n).map f).sum := by
    rw [← List.sum_append, ← List.map_append, List.take_append_drop]
  rw [List.length_drop]; omega
theorem wt_take {α : Type} {f : α → Nat} (xs : List α) (n : Nat) : (xs.take n).length + ((xs.take n).map f).sum ≤ xs.length + (xs.map f).sum := by
  have e : (xs.map f).sum = ((xs.take n).map f).sum + ((xs.drop n).map f).sum := by
    rw [← List.sum_append, ← List.map_append, List.take_append_drop]
  rw [List.length_take]; omega
theorem gDt_ {α : Type} {l : List α} {d : α} {i : Nat} (h : i < l.length) : l[i] = l.getD i d := by simp [h]
theorem beq_dec {a b : Int} : (a == b) = decide (a = b) := rfl
theorem wtIntS_len (x : List Int) : wtIntS x = x.length := by
  have h : ∀ l : List Int, (l.map wtInt).sum = 0 := by
    intro l
    induction l with
    | nil => rfl
    | cons a l ih => rw [List.map_cons, List.sum_cons, ih]; rfl
  simp [wtIntS, h]
def hasI (xs : List Int) (x : Int) : Bool := xs.any (fun y => y == x)
def inB (n l h : Int) : Bool := decide (l ≤ n) && decide (n ≤ h)
def asI (x : Int) : List (Bool × List PV) := [(false, [PV.val (vI x)])]
def rsB {γ : Type} (q : γ → Bool) (x : γ) : RV := RV.sv false [PV.val (.bool (q x))]

def okVal (v : Int) : Bool := inB v 0 99
def okRow (r : Row) : Bool := r.Values.all okVal && (inB r.Id 0 999 && decide ((r.Values.length : Int) = 3))
def okRows (l : List Row) : Bool := l.all okRow && decide ((l.length : Int) ≤ 1000)
def cStr (x : Bytes) : List PV := [PV.val (.string (B x))]
def gdStr (_x : Bytes) : Prop := True
def wtStr (x : Bytes) : Nat := x.length
def cStrS (o0 : Fl) (x : List Bytes) : List PV := [PV.sl o0 (x.map cStr)]
def gdStrS (x : List Bytes) : Prop := ∀ y ∈ x, gdStr y
def wtStrS (x : List Bytes) : Nat := x.length + (x.map wtStr).sum
def okSet (l : List Int) : Bool := (List.range l.length).all fun i => inB (l.getD i 0) 0 23 && (i == 0 || decide (l.getD (i - 1) 0 < l.getD i 0))
def okSetTo (l : List Int) (k : Nat) : Bool := (List.range k).all fun i => inB (l.getD i 0) 0 23 && (i == 0 || decide (l.getD (i - 1) 0 < l.getD i 0))
theorem okSetTo_succ {l : List Int} {k : Nat} : okSetTo l (k + 1) = (okSetTo l k && (inB (l.getD k 0) 0 23 && (k == 0 || decide (l.getD (k - 1) 0 < l.getD k 0)))) := by
  simp [okSetTo, List.range_succ]
theorem okSetTo_no {l : List Int} {k : Nat} (hk : k < l.length) (h : (inB (l.getD k 0) 0 23 && (k == 0 || decide (l.getD (k - 1) 0 < l.getD k 0))) = false) : okSet l = false := by
  cases hs : okSet l with
  | false => rfl
  | true =>
    have := List.all_eq_true.1 hs k (List.mem_range.2 hk)
    rw [h] at this; cases this
theorem okStep {l : List Int} {k : Nat} : (inB (l.getD k 0) 0 23 && (k == 0 || decide (l.getD (k - 1) 0 < l.getD k 0))) = true ↔ (0 ≤ l.getD k 0 ∧ l.getD k 0 ≤ 23 ∧ (k = 0 ∨ l.getD (k - 1) 0 < l.getD k 0)) := by
  simp [inB, and_assoc]
def pickL (q : Int → Bool) (k : Nat) : List Int := ((List.range k).map fun i : Nat => (i : Int)).filter q
theorem pickL_succ {q : Int → Bool} {k : Nat} : pickL q (k + 1) = pickL q k ++ if q k then [(k : Int)] else [] := by
  simp only [pickL, List.range_succ, List.map_append, List.filter_append, List.map_cons, List.map_nil, List.filter_cons, List.filter_nil]
theorem pickL_len (q : Int → Bool) (k : Nat) : (pickL q k).length ≤ k := by
  have := List.length_filter_le q ((List.range k).map fun i : Nat => (i : Int))
  simpa [pickL] using this
def adjTo {α : Type} (d : α) (p : α → Bool) (r : α → α → Bool) (l : List α) (k : Nat) : Bool := (List.range k).all fun i => p (l.getD i d) && (i == 0 || r (l.getD (i - 1) d) (l.getD i d))
def adjAll {α : Type} (d : α) (p : α → Bool) (r : α → α → Bool) (l : List α) : Bool := adjTo d p r l l.length
theorem adjTo_succ {α : Type} {d : α} {p : α → Bool} {r : α → α → Bool} {l : List α} {k : Nat} : adjTo d p r l (k + 1) = (adjTo d p r l k && (p (l.getD k d) && (k == 0 || r (l.getD (k - 1) d) (l.getD k d)))) := by
  simp [adjTo, List.range_succ]
theorem adjStep {α : Type} {d : α} {p : α → Bool} {r : α → α → Bool} {l : List α} {k : Nat} : (p (l.getD k d) && (k == 0 || r (l.getD (k - 1) d) (l.getD k d))) = true ↔ (p (l.getD k d) = true ∧ (k = 0 ∨ r (l.getD (k - 1) d) (l.getD k d) = true)) := by
  simp
theorem adj_no {α : Type} {d : α} {p : α → Bool} {r : α → α → Bool} {l : List α} {k : Nat} (hk : k < l.length) (h : (p (l.getD k d) && (k == 0 || r (l.getD (k - 1) d) (l.getD k d))) = false) : adjAll d p r l = false := by
  cases hs : adjAll d p r l with
  | false => rfl
  | true =>
    have := List.all_eq_true.1 hs k (List.mem_range.2 hk)
    rw [h] at this; cases this
theorem adj_end {α : Type} {d : α} {p : α → Bool} {r : α → α → Bool} {l : List α} {k : Nat} (h : adjTo d p r l k = true) (hk : k = l.length) : adjAll d p r l = true := by subst hk; exact h
theorem getD_at {α : Type} {d : α} {l : List α} {k : Nat} (h : k < l.length) : l.getD k d = l[k] := by simp [h]
def okCond (c : Cond) : Bool := inB c.Field 0 2 && (decide (0 ≤ c.Low) && (decide (c.Low ≤ c.High) && decide (c.High ≤ 99)))
def ltField (a b : Cond) : Bool := decide (a.Field < b.Field)
def okConds (l : List Cond) : Bool := adjAll ⟨0, 0, 0⟩ okCond ltField l
def okOut (v : Int) : Bool := inB v 0 2
def okFields (l : List Int) : Bool := l.all okOut && inB l.length 1 3
def okQuery (q : Query) : Bool := (inB q.Id 0 23 && (inB q.Tenant 0 3 && decide ((q.Conds.length : Int) ≤ 3))) && (okConds q.Conds && okFields q.Out)
def bareRow (r : Row) : Bool := inB r.Id 0 999 && decide (r.Values.length = 0)
def okUpdate (u : Update) : Bool :=
  if u.Kind = 1 then okRow u.Row && (decide (u.Field = 0) && decide (u.Value = 0))
  else if u.Kind = 2 then bareRow u.Row && (decide (u.Field = 0) && decide (u.Value = 0))
  else if u.Kind = 3 then bareRow u.Row && (inB u.Field 0 2 && inB u.Value 0 99) else false
theorem ext_Row_iff {x y : Row} : x = y ↔ x.Id = y.Id ∧ x.Values = y.Values := by cases x; cases y; simp_all
def as2 {α : Type} (f : α → Bool × List PV) (x : α × α) : List (Bool × List PV) := [f x.1, f x.2]
noncomputable def deq2 {α : Type} (x : α × α) : Bool := deq x.1 x.2
theorem deq_no {α : Type} {x y : α} : deq x y = false ↔ ¬ x = y := ⟨fun h e => (by rw [deq_true e] at h; simp at h), deq_false⟩
theorem ext_Cond_iff {x y : Cond} : x = y ↔ x.Field = y.Field ∧ x.Low = y.Low ∧ x.High = y.High := by cases x; cases y; simp [Cond.mk.injEq]
theorem ext_Query_iff {x y : Query} : x = y ↔ x.Id = y.Id ∧ x.Tenant = y.Tenant ∧ x.Conds = y.Conds ∧ x.Out = y.Out := by cases x; cases y; simp [Query.mk.injEq]
theorem ext_Update_iff {x y : Update} : x = y ↔ x.Kind = y.Kind ∧ x.Row = y.Row ∧ x.Field = y.Field ∧ x.Value = y.Value := by cases x; cases y; simp [Update.mk.injEq]
def zeroQ (q : Query) : Bool := decide (q.Id = 0) && (decide (q.Tenant = 0) && (decide (q.Conds.length = 0) && decide (q.Out.length = 0)))
def zeroU (u : Update) : Bool := decide (u.Kind = 0) && (decide (u.Row.Id = 0) && (decide (u.Row.Values.length = 0) && (decide (u.Field = 0) && decide (u.Value = 0))))
theorem deq_zeroQ (q : Query) : deq q ⟨0, 0, [], []⟩ = zeroQ q := by
  rw [Bool.eq_iff_iff, deq_iff]; cases q; simp [zeroQ, List.length_eq_zero_iff]
theorem deq_zeroU (u : Update) : deq u ⟨0, ⟨0, []⟩, 0, 0⟩ = zeroU u := by
  rw [Bool.eq_iff_iff, deq_iff]; rcases u with ⟨a, ⟨b, c⟩, d, e⟩; simp [zeroU, List.length_eq_zero_iff, and_assoc]
def okEvent (x : Event) : Bool :=
  if x.Kind = 1 then okQuery x.Query && (inB x.Limit 0 32 && (decide (x.Id = 0) && (zeroU x.Update && decide (x.Steps = 0))))
  else if x.Kind = 2 then zeroQ x.Query && (decide (x.Limit = 0) && (inB x.Id 0 23 && (zeroU x.Update && decide (x.Steps = 0))))
  else if x.Kind = 3 then zeroQ x.Query && (decide (x.Limit = 0) && (decide (x.Id = 0) && (okUpdate x.Update && decide (x.Steps = 0))))
  else if x.Kind = 4 then zeroQ x.Query && (decide (x.Limit = 0) && (decide (x.Id = 0) && (zeroU x.Update && inB x.Steps 1 100)))
  else false
end Go.Proofs.YtaomckpfgmhapaaDoor
