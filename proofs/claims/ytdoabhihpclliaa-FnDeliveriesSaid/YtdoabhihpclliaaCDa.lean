/- The types, as they are read. No condition. -/
import Derived.Test.YtdoabhihpclliaaCF1
import Derived.Test.YtdoabhihpclliaaCF2
set_option linter.unusedVariables false
set_option linter.unusedSimpArgs false
namespace Go.Proofs.Ytdoabhihpclliaa
open Go Go.RowKit M
set_option maxRecDepth 10000

section
variable {α : Type} {P : α → Bool} {xs ys : List α} {k : Nat}
theorem all_zero : (xs.take 0).all P = true := by simp
theorem all_succ (h : (xs.take k).all P = true) (hk : k < xs.length) (hp : P xs[k] = true) : (xs.take (k + 1)).all P = true := by
  rw [List.take_succ_eq_append_getElem hk, List.all_append, h]; simp [hp]
theorem all_no (hk : k < xs.length) (hp : P xs[k] = false) : xs.all P = false := by
  rw [List.all_eq_false]; exact ⟨_, List.getElem_mem hk, by rw [hp]; simp⟩
theorem all_end (h : (xs.take xs.length).all P = true) : xs.all P = true := by rwa [List.take_length] at h
theorem any_succ (h : (xs.take k).any P = false) (hk : k < xs.length) (hp : P xs[k] = false) : (xs.take (k + 1)).any P = false := by
  rw [List.take_succ_eq_append_getElem hk, List.any_append, h]; simp [hp]
theorem any_yes (hk : k < xs.length) (hp : P xs[k] = true) : xs.any P = true := by
  rw [List.any_eq_true]; exact ⟨_, List.getElem_mem hk, hp⟩
theorem any_end (h : (xs.take xs.length).any P = false) : xs.any P = false := by rwa [List.take_length] at h
theorem eq_succ (h : xs.take k = ys.take k) (hk : k < xs.length) (hk' : k < ys.length) (he : xs[k] = ys[k]) : xs.take (k + 1) = ys.take (k + 1) := by
  rw [List.take_succ_eq_append_getElem hk, List.take_succ_eq_append_getElem hk', h, he]
theorem eq_no (hk : k < xs.length) (hk' : k < ys.length) (he : ¬ xs[k] = ys[k]) : ¬ xs = ys := by
  rintro rfl; exact he rfl
theorem eq_end (hl : xs.length = ys.length) (h : xs.take xs.length = ys.take xs.length) : xs = ys := by
  rw [List.take_length] at h; rw [h, hl, List.take_length]
theorem wtk {f : α → Nat} (hk : k < xs.length) : ((xs.take (k + 1)).map f).sum = ((xs.take k).map f).sum + f xs[k] := by
  rw [List.take_succ_eq_append_getElem hk, List.map_append, List.sum_append]; simp
theorem wtk_le {f : α → Nat} (xs : List α) (k : Nat) : ((xs.take k).map f).sum ≤ (xs.map f).sum := by
  have h : xs = xs.take k ++ xs.drop k := (List.take_append_drop _ _).symm
  have e : (xs.map f).sum = ((xs.take k).map f).sum + ((xs.drop k).map f).sum := by
    rw [← List.sum_append, ← List.map_append, ← h]
  omega
theorem wt_mem {f : α → Nat} (hk : k < xs.length) : f xs[k] ≤ (xs.map f).sum := by
  have h1 := wtk (f := f) hk
  have h2 := wtk_le (f := f) xs (k + 1)
  omega
noncomputable def deq (x y : α) : Bool := @decide (x = y) (Classical.propDecidable _)
theorem deq_true {x y : α} (h : x = y) : deq x y = true := @decide_eq_true _ (Classical.propDecidable _) h
theorem deq_false {x y : α} (h : ¬ x = y) : deq x y = false := @decide_eq_false _ (Classical.propDecidable _) h
theorem deq_iff {x y : α} : deq x y = true ↔ x = y := @decide_eq_true_iff _ (Classical.propDecidable _)
theorem deq_self (x : α) : deq x x = true := deq_true rfl
end
def szR (l n : Int) : Int := if n ≤ l then l - n else -1
theorem szR_yes {l n : Int} (h : n ≤ l) : szR l n = l - n := if_pos h
theorem szR_no {l n : Int} (h : l < n) : szR l n = -1 := if_neg (by omega)
theorem szR_neg {l w : Int} (_h0 : 0 ≤ l) (h : szR l w < 0) : l < w := by unfold szR at h; split at h <;> omega
theorem szR_pos {l w : Int} (h : ¬ szR l w < 0) : w ≤ l := by unfold szR at h; split at h <;> omega
theorem us_1 {us : List Value} (h : us.length = 1) : ∃ v0, us = [v0] := by
  rcases us with _ | ⟨v0, _ | ⟨v1, vs⟩⟩ <;> first | exact ⟨_, rfl⟩ | (simp at h; try omega)
theorem us_2 {us : List Value} (h : us.length = 2) : ∃ v0 v1, us = [v0, v1] := by
  rcases us with _ | ⟨v0, _ | ⟨v1, _ | ⟨v2, vs⟩⟩⟩ <;> first | exact ⟨_, _, rfl⟩ | (simp at h; try omega)
theorem us_3 {us : List Value} (h : us.length = 3) : ∃ v0 v1 v2, us = [v0, v1, v2] := by
  rcases us with _ | ⟨v0, _ | ⟨v1, _ | ⟨v2, _ | ⟨v3, vs⟩⟩⟩⟩ <;> first | exact ⟨_, _, _, rfl⟩ | (simp at h; try omega)
theorem us_4 {us : List Value} (h : us.length = 4) : ∃ v0 v1 v2 v3, us = [v0, v1, v2, v3] := by
  rcases us with _ | ⟨v0, _ | ⟨v1, _ | ⟨v2, _ | ⟨v3, _ | ⟨v4, vs⟩⟩⟩⟩⟩ <;> first | exact ⟨_, _, _, _, rfl⟩ | (simp at h; try omega)
theorem us_5 {us : List Value} (h : us.length = 5) : ∃ v0 v1 v2 v3 v4, us = [v0, v1, v2, v3, v4] := by
  rcases us with _ | ⟨v0, _ | ⟨v1, _ | ⟨v2, _ | ⟨v3, _ | ⟨v4, _ | ⟨v5, vs⟩⟩⟩⟩⟩⟩ <;> first | exact ⟨_, _, _, _, _, rfl⟩ | (simp at h; try omega)
theorem us_6 {us : List Value} (h : us.length = 6) : ∃ v0 v1 v2 v3 v4 v5, us = [v0, v1, v2, v3, v4, v5] := by
  rcases us with _ | ⟨v0, _ | ⟨v1, _ | ⟨v2, _ | ⟨v3, _ | ⟨v4, _ | ⟨v5, _ | ⟨v6, vs⟩⟩⟩⟩⟩⟩⟩ <;> first | exact ⟨_, _, _, _, _, _, rfl⟩ | (simp at h; try omega)
theorem us_7 {us : List Value} (h : us.length = 7) : ∃ v0 v1 v2 v3 v4 v5 v6, us = [v0, v1, v2, v3, v4, v5, v6] := by
  rcases us with _ | ⟨v0, _ | ⟨v1, _ | ⟨v2, _ | ⟨v3, _ | ⟨v4, _ | ⟨v5, _ | ⟨v6, _ | ⟨v7, vs⟩⟩⟩⟩⟩⟩⟩⟩ <;> first | exact ⟨_, _, _, _, _, _, _, rfl⟩ | (simp at h; try omega)
theorem us_8 {us : List Value} (h : us.length = 8) : ∃ v0 v1 v2 v3 v4 v5 v6 v7, us = [v0, v1, v2, v3, v4, v5, v6, v7] := by
  rcases us with _ | ⟨v0, _ | ⟨v1, _ | ⟨v2, _ | ⟨v3, _ | ⟨v4, _ | ⟨v5, _ | ⟨v6, _ | ⟨v7, _ | ⟨v8, vs⟩⟩⟩⟩⟩⟩⟩⟩⟩ <;> first | exact ⟨_, _, _, _, _, _, _, _, rfl⟩ | (simp at h; try omega)
theorem us_9 {us : List Value} (h : us.length = 9) : ∃ v0 v1 v2 v3 v4 v5 v6 v7 v8, us = [v0, v1, v2, v3, v4, v5, v6, v7, v8] := by
  rcases us with _ | ⟨v0, _ | ⟨v1, _ | ⟨v2, _ | ⟨v3, _ | ⟨v4, _ | ⟨v5, _ | ⟨v6, _ | ⟨v7, _ | ⟨v8, _ | ⟨v9, vs⟩⟩⟩⟩⟩⟩⟩⟩⟩⟩ <;> first | exact ⟨_, _, _, _, _, _, _, _, _, rfl⟩ | (simp at h; try omega)
theorem us_10 {us : List Value} (h : us.length = 10) : ∃ v0 v1 v2 v3 v4 v5 v6 v7 v8 v9, us = [v0, v1, v2, v3, v4, v5, v6, v7, v8, v9] := by
  rcases us with _ | ⟨v0, _ | ⟨v1, _ | ⟨v2, _ | ⟨v3, _ | ⟨v4, _ | ⟨v5, _ | ⟨v6, _ | ⟨v7, _ | ⟨v8, _ | ⟨v9, _ | ⟨v10, vs⟩⟩⟩⟩⟩⟩⟩⟩⟩⟩⟩ <;> first | exact ⟨_, _, _, _, _, _, _, _, _, _, rfl⟩ | (simp at h; try omega)
theorem us_11 {us : List Value} (h : us.length = 11) : ∃ v0 v1 v2 v3 v4 v5 v6 v7 v8 v9 v10, us = [v0, v1, v2, v3, v4, v5, v6, v7, v8, v9, v10] := by
  rcases us with _ | ⟨v0, _ | ⟨v1, _ | ⟨v2, _ | ⟨v3, _ | ⟨v4, _ | ⟨v5, _ | ⟨v6, _ | ⟨v7, _ | ⟨v8, _ | ⟨v9, _ | ⟨v10, _ | ⟨v11, vs⟩⟩⟩⟩⟩⟩⟩⟩⟩⟩⟩⟩ <;> first | exact ⟨_, _, _, _, _, _, _, _, _, _, _, rfl⟩ | (simp at h; try omega)
theorem us_12 {us : List Value} (h : us.length = 12) : ∃ v0 v1 v2 v3 v4 v5 v6 v7 v8 v9 v10 v11, us = [v0, v1, v2, v3, v4, v5, v6, v7, v8, v9, v10, v11] := by
  rcases us with _ | ⟨v0, _ | ⟨v1, _ | ⟨v2, _ | ⟨v3, _ | ⟨v4, _ | ⟨v5, _ | ⟨v6, _ | ⟨v7, _ | ⟨v8, _ | ⟨v9, _ | ⟨v10, _ | ⟨v11, _ | ⟨v12, vs⟩⟩⟩⟩⟩⟩⟩⟩⟩⟩⟩⟩⟩ <;> first | exact ⟨_, _, _, _, _, _, _, _, _, _, _, _, rfl⟩ | (simp at h; try omega)
theorem us_13 {us : List Value} (h : us.length = 13) : ∃ v0 v1 v2 v3 v4 v5 v6 v7 v8 v9 v10 v11 v12, us = [v0, v1, v2, v3, v4, v5, v6, v7, v8, v9, v10, v11, v12] := by
  rcases us with _ | ⟨v0, _ | ⟨v1, _ | ⟨v2, _ | ⟨v3, _ | ⟨v4, _ | ⟨v5, _ | ⟨v6, _ | ⟨v7, _ | ⟨v8, _ | ⟨v9, _ | ⟨v10, _ | ⟨v11, _ | ⟨v12, _ | ⟨v13, vs⟩⟩⟩⟩⟩⟩⟩⟩⟩⟩⟩⟩⟩⟩ <;> first | exact ⟨_, _, _, _, _, _, _, _, _, _, _, _, _, rfl⟩ | (simp at h; try omega)
theorem us_14 {us : List Value} (h : us.length = 14) : ∃ v0 v1 v2 v3 v4 v5 v6 v7 v8 v9 v10 v11 v12 v13, us = [v0, v1, v2, v3, v4, v5, v6, v7, v8, v9, v10, v11, v12, v13] := by
  rcases us with _ | ⟨v0, _ | ⟨v1, _ | ⟨v2, _ | ⟨v3, _ | ⟨v4, _ | ⟨v5, _ | ⟨v6, _ | ⟨v7, _ | ⟨v8, _ | ⟨v9, _ | ⟨v10, _ | ⟨v11, _ | ⟨v12, _ | ⟨v13, _ | ⟨v14, vs⟩⟩⟩⟩⟩⟩⟩⟩⟩⟩⟩⟩⟩⟩⟩ <;> first | exact ⟨_, _, _, _, _, _, _, _, _, _, _, _, _, _, rfl⟩ | (simp at h; try omega)
theorem us_15 {us : List Value} (h : us.length = 15) : ∃ v0 v1 v2 v3 v4 v5 v6 v7 v8 v9 v10 v11 v12 v13 v14, us = [v0, v1, v2, v3, v4, v5, v6, v7, v8, v9, v10, v11, v12, v13, v14] := by
  rcases us with _ | ⟨v0, _ | ⟨v1, _ | ⟨v2, _ | ⟨v3, _ | ⟨v4, _ | ⟨v5, _ | ⟨v6, _ | ⟨v7, _ | ⟨v8, _ | ⟨v9, _ | ⟨v10, _ | ⟨v11, _ | ⟨v12, _ | ⟨v13, _ | ⟨v14, _ | ⟨v15, vs⟩⟩⟩⟩⟩⟩⟩⟩⟩⟩⟩⟩⟩⟩⟩⟩ <;> first | exact ⟨_, _, _, _, _, _, _, _, _, _, _, _, _, _, _, rfl⟩ | (simp at h; try omega)
theorem us_16 {us : List Value} (h : us.length = 16) : ∃ v0 v1 v2 v3 v4 v5 v6 v7 v8 v9 v10 v11 v12 v13 v14 v15, us = [v0, v1, v2, v3, v4, v5, v6, v7, v8, v9, v10, v11, v12, v13, v14, v15] := by
  rcases us with _ | ⟨v0, _ | ⟨v1, _ | ⟨v2, _ | ⟨v3, _ | ⟨v4, _ | ⟨v5, _ | ⟨v6, _ | ⟨v7, _ | ⟨v8, _ | ⟨v9, _ | ⟨v10, _ | ⟨v11, _ | ⟨v12, _ | ⟨v13, _ | ⟨v14, _ | ⟨v15, _ | ⟨v16, vs⟩⟩⟩⟩⟩⟩⟩⟩⟩⟩⟩⟩⟩⟩⟩⟩⟩ <;> first | exact ⟨_, _, _, _, _, _, _, _, _, _, _, _, _, _, _, _, rfl⟩ | (simp at h; try omega)
theorem us_17 {us : List Value} (h : us.length = 17) : ∃ v0 v1 v2 v3 v4 v5 v6 v7 v8 v9 v10 v11 v12 v13 v14 v15 v16, us = [v0, v1, v2, v3, v4, v5, v6, v7, v8, v9, v10, v11, v12, v13, v14, v15, v16] := by
  rcases us with _ | ⟨v0, _ | ⟨v1, _ | ⟨v2, _ | ⟨v3, _ | ⟨v4, _ | ⟨v5, _ | ⟨v6, _ | ⟨v7, _ | ⟨v8, _ | ⟨v9, _ | ⟨v10, _ | ⟨v11, _ | ⟨v12, _ | ⟨v13, _ | ⟨v14, _ | ⟨v15, _ | ⟨v16, _ | ⟨v17, vs⟩⟩⟩⟩⟩⟩⟩⟩⟩⟩⟩⟩⟩⟩⟩⟩⟩⟩ <;> first | exact ⟨_, _, _, _, _, _, _, _, _, _, _, _, _, _, _, _, _, rfl⟩ | (simp at h; try omega)
theorem us_18 {us : List Value} (h : us.length = 18) : ∃ v0 v1 v2 v3 v4 v5 v6 v7 v8 v9 v10 v11 v12 v13 v14 v15 v16 v17, us = [v0, v1, v2, v3, v4, v5, v6, v7, v8, v9, v10, v11, v12, v13, v14, v15, v16, v17] := by
  rcases us with _ | ⟨v0, _ | ⟨v1, _ | ⟨v2, _ | ⟨v3, _ | ⟨v4, _ | ⟨v5, _ | ⟨v6, _ | ⟨v7, _ | ⟨v8, _ | ⟨v9, _ | ⟨v10, _ | ⟨v11, _ | ⟨v12, _ | ⟨v13, _ | ⟨v14, _ | ⟨v15, _ | ⟨v16, _ | ⟨v17, _ | ⟨v18, vs⟩⟩⟩⟩⟩⟩⟩⟩⟩⟩⟩⟩⟩⟩⟩⟩⟩⟩⟩ <;> first | exact ⟨_, _, _, _, _, _, _, _, _, _, _, _, _, _, _, _, _, _, rfl⟩ | (simp at h; try omega)
theorem us_19 {us : List Value} (h : us.length = 19) : ∃ v0 v1 v2 v3 v4 v5 v6 v7 v8 v9 v10 v11 v12 v13 v14 v15 v16 v17 v18, us = [v0, v1, v2, v3, v4, v5, v6, v7, v8, v9, v10, v11, v12, v13, v14, v15, v16, v17, v18] := by
  rcases us with _ | ⟨v0, _ | ⟨v1, _ | ⟨v2, _ | ⟨v3, _ | ⟨v4, _ | ⟨v5, _ | ⟨v6, _ | ⟨v7, _ | ⟨v8, _ | ⟨v9, _ | ⟨v10, _ | ⟨v11, _ | ⟨v12, _ | ⟨v13, _ | ⟨v14, _ | ⟨v15, _ | ⟨v16, _ | ⟨v17, _ | ⟨v18, _ | ⟨v19, vs⟩⟩⟩⟩⟩⟩⟩⟩⟩⟩⟩⟩⟩⟩⟩⟩⟩⟩⟩⟩ <;> first | exact ⟨_, _, _, _, _, _, _, _, _, _, _, _, _, _, _, _, _, _, _, rfl⟩ | (simp at h; try omega)
theorem us_20 {us : List Value} (h : us.length = 20) : ∃ v0 v1 v2 v3 v4 v5 v6 v7 v8 v9 v10 v11 v12 v13 v14 v15 v16 v17 v18 v19, us = [v0, v1, v2, v3, v4, v5, v6, v7, v8, v9, v10, v11, v12, v13, v14, v15, v16, v17, v18, v19] := by
  rcases us with _ | ⟨v0, _ | ⟨v1, _ | ⟨v2, _ | ⟨v3, _ | ⟨v4, _ | ⟨v5, _ | ⟨v6, _ | ⟨v7, _ | ⟨v8, _ | ⟨v9, _ | ⟨v10, _ | ⟨v11, _ | ⟨v12, _ | ⟨v13, _ | ⟨v14, _ | ⟨v15, _ | ⟨v16, _ | ⟨v17, _ | ⟨v18, _ | ⟨v19, _ | ⟨v20, vs⟩⟩⟩⟩⟩⟩⟩⟩⟩⟩⟩⟩⟩⟩⟩⟩⟩⟩⟩⟩⟩ <;> first | exact ⟨_, _, _, _, _, _, _, _, _, _, _, _, _, _, _, _, _, _, _, _, rfl⟩ | (simp at h; try omega)
theorem us_21 {us : List Value} (h : us.length = 21) : ∃ v0 v1 v2 v3 v4 v5 v6 v7 v8 v9 v10 v11 v12 v13 v14 v15 v16 v17 v18 v19 v20, us = [v0, v1, v2, v3, v4, v5, v6, v7, v8, v9, v10, v11, v12, v13, v14, v15, v16, v17, v18, v19, v20] := by
  rcases us with _ | ⟨v0, _ | ⟨v1, _ | ⟨v2, _ | ⟨v3, _ | ⟨v4, _ | ⟨v5, _ | ⟨v6, _ | ⟨v7, _ | ⟨v8, _ | ⟨v9, _ | ⟨v10, _ | ⟨v11, _ | ⟨v12, _ | ⟨v13, _ | ⟨v14, _ | ⟨v15, _ | ⟨v16, _ | ⟨v17, _ | ⟨v18, _ | ⟨v19, _ | ⟨v20, _ | ⟨v21, vs⟩⟩⟩⟩⟩⟩⟩⟩⟩⟩⟩⟩⟩⟩⟩⟩⟩⟩⟩⟩⟩⟩ <;> first | exact ⟨_, _, _, _, _, _, _, _, _, _, _, _, _, _, _, _, _, _, _, _, _, rfl⟩ | (simp at h; try omega)
theorem us_22 {us : List Value} (h : us.length = 22) : ∃ v0 v1 v2 v3 v4 v5 v6 v7 v8 v9 v10 v11 v12 v13 v14 v15 v16 v17 v18 v19 v20 v21, us = [v0, v1, v2, v3, v4, v5, v6, v7, v8, v9, v10, v11, v12, v13, v14, v15, v16, v17, v18, v19, v20, v21] := by
  rcases us with _ | ⟨v0, _ | ⟨v1, _ | ⟨v2, _ | ⟨v3, _ | ⟨v4, _ | ⟨v5, _ | ⟨v6, _ | ⟨v7, _ | ⟨v8, _ | ⟨v9, _ | ⟨v10, _ | ⟨v11, _ | ⟨v12, _ | ⟨v13, _ | ⟨v14, _ | ⟨v15, _ | ⟨v16, _ | ⟨v17, _ | ⟨v18, _ | ⟨v19, _ | ⟨v20, _ | ⟨v21, _ | ⟨v22, vs⟩⟩⟩⟩⟩⟩⟩⟩⟩⟩⟩⟩⟩⟩⟩⟩⟩⟩⟩⟩⟩⟩⟩ <;> first | exact ⟨_, _, _, _, _, _, _, _, _, _, _, _, _, _, _, _, _, _, _, _, _, _, rfl⟩ | (simp at h; try omega)
theorem us_23 {us : List Value} (h : us.length = 23) : ∃ v0 v1 v2 v3 v4 v5 v6 v7 v8 v9 v10 v11 v12 v13 v14 v15 v16 v17 v18 v19 v20 v21 v22, us = [v0, v1, v2, v3, v4, v5, v6, v7, v8, v9, v10, v11, v12, v13, v14, v15, v16, v17, v18, v19, v20, v21, v22] := by
  rcases us with _ | ⟨v0, _ | ⟨v1, _ | ⟨v2, _ | ⟨v3, _ | ⟨v4, _ | ⟨v5, _ | ⟨v6, _ | ⟨v7, _ | ⟨v8, _ | ⟨v9, _ | ⟨v10, _ | ⟨v11, _ | ⟨v12, _ | ⟨v13, _ | ⟨v14, _ | ⟨v15, _ | ⟨v16, _ | ⟨v17, _ | ⟨v18, _ | ⟨v19, _ | ⟨v20, _ | ⟨v21, _ | ⟨v22, _ | ⟨v23, vs⟩⟩⟩⟩⟩⟩⟩⟩⟩⟩⟩⟩⟩⟩⟩⟩⟩⟩⟩⟩⟩⟩⟩⟩ <;> first | exact ⟨_, _, _, _, _, _, _, _, _, _, _, _, _, _, _, _, _, _, _, _, _, _, _, rfl⟩ | (simp at h; try omega)
theorem us_24 {us : List Value} (h : us.length = 24) : ∃ v0 v1 v2 v3 v4 v5 v6 v7 v8 v9 v10 v11 v12 v13 v14 v15 v16 v17 v18 v19 v20 v21 v22 v23, us = [v0, v1, v2, v3, v4, v5, v6, v7, v8, v9, v10, v11, v12, v13, v14, v15, v16, v17, v18, v19, v20, v21, v22, v23] := by
  rcases us with _ | ⟨v0, _ | ⟨v1, _ | ⟨v2, _ | ⟨v3, _ | ⟨v4, _ | ⟨v5, _ | ⟨v6, _ | ⟨v7, _ | ⟨v8, _ | ⟨v9, _ | ⟨v10, _ | ⟨v11, _ | ⟨v12, _ | ⟨v13, _ | ⟨v14, _ | ⟨v15, _ | ⟨v16, _ | ⟨v17, _ | ⟨v18, _ | ⟨v19, _ | ⟨v20, _ | ⟨v21, _ | ⟨v22, _ | ⟨v23, _ | ⟨v24, vs⟩⟩⟩⟩⟩⟩⟩⟩⟩⟩⟩⟩⟩⟩⟩⟩⟩⟩⟩⟩⟩⟩⟩⟩⟩ <;> first | exact ⟨_, _, _, _, _, _, _, _, _, _, _, _, _, _, _, _, _, _, _, _, _, _, _, _, rfl⟩ | (simp at h; try omega)
def cU8 (x : Int) : List PV := [PV.val (.int .u8 x)]
def gdU8 (_x : Int) : Prop := True
def wtU8 (_x : Int) : Nat := 0
def cU8S (o0 : Fl) (x : List Int) : List PV := [PV.sl o0 (x.map cU8)]
def gdU8S (x : List Int) : Prop := ∀ y ∈ x, gdU8 y
def wtU8S (x : List Int) : Nat := x.length + (x.map wtU8).sum
def cInt (x : Int) : List PV := [PV.val (vI x)]
def gdInt (x : Int) : Prop := I64 x
def wtInt (_x : Int) : Nat := 0
def cIntS (o0 : Fl) (x : List Int) : List PV := [PV.sl o0 (x.map cInt)]
def gdIntS (x : List Int) : Prop := ∀ y ∈ x, gdInt y
def wtIntS (x : List Int) : Nat := x.length + (x.map wtInt).sum
structure Row where
  Id : Int
  Values : List Int
def cRow (o0 : Fl) (x : Row) : List PV := [PV.val (vI x.Id), PV.sl o0 (x.Values.map cInt)]
def gdRow (x : Row) : Prop := gdInt x.Id ∧ gdIntS x.Values
def wtRow (x : Row) : Nat := wtInt x.Id + wtIntS x.Values
theorem ext_Row {x y : Row} (h0 : x.Id = y.Id) (h1 : x.Values = y.Values) : x = y := by cases x; cases y; simp_all
def cRowS (o0 o1 : Fl) (x : List Row) : List PV := [PV.sl o0 (x.map (cRow o1))]
def gdRowS (x : List Row) : Prop := ∀ y ∈ x, gdRow y
def wtRowS (x : List Row) : Nat := x.length + (x.map wtRow).sum
structure Client where
  Next : Int
  Rows : List Row
def cClient (o0 o1 : Fl) (x : Client) : List PV := [PV.val (vI x.Next), PV.sl o0 (x.Rows.map (cRow o1))]
def gdClient (x : Client) : Prop := gdInt x.Next ∧ gdRowS x.Rows
def wtClient (x : Client) : Nat := wtInt x.Next + wtRowS x.Rows
theorem ext_Client {x y : Client} (h0 : x.Next = y.Next) (h1 : x.Rows = y.Rows) : x = y := by cases x; cases y; simp_all
structure Outbox where
  Rows : List Row
  Acked : Int
  Tries : Int
def cOutbox (o0 o1 : Fl) (x : Outbox) : List PV := [PV.sl o0 (x.Rows.map (cRow o1)), PV.val (vI x.Acked), PV.val (vI x.Tries)]
def gdOutbox (x : Outbox) : Prop := gdRowS x.Rows ∧ gdInt x.Acked ∧ gdInt x.Tries
def wtOutbox (x : Outbox) : Nat := wtRowS x.Rows + wtInt x.Acked + wtInt x.Tries
theorem ext_Outbox {x y : Outbox} (h0 : x.Rows = y.Rows) (h1 : x.Acked = y.Acked) (h2 : x.Tries = y.Tries) : x = y := by cases x; cases y; simp_all
theorem fm_succ {α β : Type} {xs : List α} {g : α → List β} {k : Nat} (hk : k < xs.length) : (xs.take (k + 1)).flatMap g = (xs.take k).flatMap g ++ g xs[k] := by
  rw [List.take_succ_eq_append_getElem hk, List.flatMap_append]; simp
theorem fm_le {α β : Type} {xs : List α} {g : α → List β} (h : ∀ x, (g x).length ≤ 1) : (xs.flatMap g).length ≤ xs.length := by
  induction xs with
  | nil => simp
  | cons x xs ih => have := h x; simp only [List.flatMap_cons, List.length_append, List.length_cons]; omega
theorem fm_lek {α β : Type} {xs : List α} {g : α → List β} (h : ∀ x, (g x).length ≤ 1) (k : Nat) : ((xs.take k).flatMap g).length ≤ k := by
  have h1 := fm_le (xs := xs.take k) h
  rw [List.length_take] at h1
  omega
theorem tk_succ {α : Type} {xs : List α} {k : Nat} (hk : k < xs.length) : xs.take (k + 1) = xs.take k ++ [xs[k]] := List.take_succ_eq_append_getElem hk
theorem wt_drop {α : Type} {f : α → Nat} (xs : List α) (n : Nat) : (xs.drop n).length + ((xs.drop n).map f).sum ≤ xs.length + (xs.map f).sum := by
  have e : (xs.map f).sum = ((xs.take n).map f).sum + ((xs.drop n).map f).sum := by
    rw [← List.sum_append, ← List.map_append, List.take_append_drop]
  rw [List.length_drop]; omega
theorem wt_take {α : Type} {f : α → Nat} (xs : List α) (n : Nat) : (xs.take n).length + ((xs.take n).map f).sum ≤ xs.length + (xs.map f).sum := by
  have e : (xs.map f).sum = ((xs.take n).map f).sum + ((xs.drop n).map f).sum := by
    rw [← List.sum_append, ← List.map_append, List.take_append_drop]
  rw [List.length_take]; omega
theorem beq_dec {a b : Int} : (a == b) = decide (a = b) := rfl
theorem wtIntS_len (x : List Int) : wtIntS x = x.length := by
  have h : ∀ l : List Int, (l.map wtInt).sum = 0 := by
    intro l
    induction l with
    | nil => rfl
    | cons a l ih => rw [List.map_cons, List.sum_cons, ih]; rfl
  simp [wtIntS, h]
def hasI (xs : List Int) (x : Int) : Bool := xs.any (fun y => y == x)
def inB (n l h : Int) : Bool := decide (l ≤ n) && decide (n ≤ h)
def asI (x : Int) : List (Bool × List PV) := [(false, [PV.val (vI x)])]
def rsB {γ : Type} (q : γ → Bool) (x : γ) : RV := RV.sv false [PV.val (.bool (q x))]

def okVal (v : Int) : Bool := inB v 0 99
def okRow (r : Row) : Bool := r.Values.all okVal && (inB r.Id 0 999 && decide ((r.Values.length : Int) = 3))
def okRows (l : List Row) : Bool := l.all okRow && decide ((l.length : Int) ≤ 1000)
theorem ext_Row_iff {x y : Row} : x = y ↔ x.Id = y.Id ∧ x.Values = y.Values := by cases x; cases y; simp_all
def as2 {α : Type} (f : α → Bool × List PV) (x : α × α) : List (Bool × List PV) := [f x.1, f x.2]
noncomputable def deq2 {α : Type} (x : α × α) : Bool := deq x.1 x.2
def okBox (o : Outbox) : Bool := okRows o.Rows && (inB o.Acked 0 o.Rows.length && inB o.Tries 0 100000)
def newBox (l : List Row) : Outbox × Bool := if okRows l then (⟨l, 0, 0⟩, true) else (⟨[], 0, 0⟩, false)
def resume (o : Outbox) (n : Int) : List Row := if okBox o && inB n 0 o.Rows.length then o.Rows.drop n.toNat else []
def recvOk (c : Client) (n : Int) (r : Row) : Bool := (n == c.Next) && (okRow r && inB c.Next 0 100000)
def recv (c : Client) (n : Int) (r : Row) : Client × Int := if recvOk c n r then (⟨c.Next + 1, c.Rows ++ [r]⟩, c.Next + 1) else (c, c.Next)
def rowAt (l : List Row) (n : Int) : Row := l.getD n.toNat ⟨0, []⟩
def sendOk (o : Outbox) : Bool := okBox o && (!(o.Acked == (o.Rows.length : Int)) && !(o.Tries == 100000))
def sendTo (o : Outbox) (c : Client) (fate : Int) : Client × Int := if fate = 3 then recv (recv c o.Acked (rowAt o.Rows o.Acked)).1 o.Acked (rowAt o.Rows o.Acked) else recv c o.Acked (rowAt o.Rows o.Acked)
def send (o : Outbox) (c : Client) (fate : Int) : Outbox × Client × Bool :=
  if sendOk o then
    if fate = 1 then (⟨o.Rows, o.Acked, o.Tries + 1⟩, c, true)
    else (⟨o.Rows, if fate = 2 then o.Acked else max o.Acked (min (sendTo o c fate).2 o.Rows.length), o.Tries + 1⟩, (sendTo o c fate).1, true)
  else (o, c, false)
theorem okBox_facts {o : Outbox} (h : okBox o = true) : 0 ≤ o.Acked ∧ o.Acked ≤ o.Rows.length ∧ 0 ≤ o.Tries ∧ o.Tries ≤ 100000 := by
  simp [okBox, inB] at h; omega
theorem rowAt_eq {l : List Row} {n : Int} (h0 : 0 ≤ n) (h : n.toNat < l.length) : l[n.toNat] = rowAt l n := by simp [rowAt, h]
theorem wt_rowAt (l : List Row) (n : Int) : wtRow (rowAt l n) ≤ wtRowS l := by
  unfold rowAt wtRowS
  by_cases h : n.toNat < l.length
  · have := wt_mem (f := wtRow) h
    simp [h]; omega
  · rw [List.getD_eq_getElem?_getD, List.getElem?_eq_none (by omega)]
    simp [wtRow, wtInt, wtIntS_len]
theorem recv_wt (c : Client) (n : Int) (r : Row) : wtClient (recv c n r).1 ≤ wtClient c + 1 + wtRow r := by
  unfold recv
  split
  · simp [wtClient, wtRowS, wtInt]; omega
  · simp; omega
theorem sendOk_facts {o : Outbox} (h : sendOk o = true) : 0 ≤ o.Acked ∧ o.Acked.toNat < o.Rows.length ∧ 0 ≤ o.Tries ∧ o.Tries < 100000 := by
  simp only [sendOk, Bool.and_eq_true] at h
  have := okBox_facts h.1
  simp at h; omega
theorem newBox_wt (x : List Row) : wtOutbox (newBox x).1 ≤ wtRowS x := by
  unfold newBox
  split <;> simp [wtOutbox, wtInt, wtRowS]
theorem resume_wt (o : Outbox) (n : Int) : wtRowS (resume o n) ≤ wtOutbox o := by
  unfold resume
  split
  · have := wt_drop (f := wtRow) o.Rows n.toNat
    simp only [wtOutbox, wtRowS, wtInt]; omega
  · simp [wtRowS]
theorem send_wt1 (o : Outbox) (c : Client) (fate : Int) : wtOutbox (send o c fate).1 ≤ wtOutbox o := by
  unfold send
  split
  · split <;> simp [wtOutbox, wtInt]
  · simp
theorem send_wt2 (o : Outbox) (c : Client) (fate : Int) : wtClient (send o c fate).2.1 ≤ wtClient c + 2 + 2 * wtOutbox o := by
  have h1 := wt_rowAt o.Rows o.Acked
  have h2 := recv_wt c o.Acked (rowAt o.Rows o.Acked)
  have h3 := recv_wt (recv c o.Acked (rowAt o.Rows o.Acked)).1 o.Acked (rowAt o.Rows o.Acked)
  have h4 : wtRowS o.Rows ≤ wtOutbox o := by simp [wtOutbox, wtInt]
  unfold send
  split
  · split
    · simp; omega
    · simp only [sendTo]
      split <;> omega
  · simp; omega
def dstep (s : Outbox × Client) (fate : Int) : Outbox × Client := ((send s.1 s.2 fate).1, (send s.1 s.2 fate).2.1)
def run1 (s : Outbox × Client) (l : List Int) (k : Nat) : Outbox × Client := (l.take k).foldl dstep s
theorem run1_succ {s : Outbox × Client} {l : List Int} {k : Nat} (h : k < l.length) : run1 s l (k + 1) = dstep (run1 s l k) l[k] := by
  unfold run1; rw [List.take_succ_eq_append_getElem h, List.foldl_append]; rfl
theorem run1_succ2 {s : Outbox × Client} {l : List Int} {m k : Nat} (h : k < (l.take m).length) (h2 : k < l.length) : run1 s (l.take m) (k + 1) = dstep (run1 s (l.take m) k) l[k] := by
  rw [run1_succ h, List.getElem_take]
def drive : Nat → Outbox × Client → Outbox × Client
  | 0, s => s
  | n + 1, s => if s.1.Acked < s.1.Rows.length then drive n (dstep s 0) else s
def deliverAll (rows : List Row) (fates : List Int) : Outbox × Client := if okRows rows then drive 2000 (run1 (⟨rows, 0, 0⟩, ⟨0, []⟩) (fates.take 200) (fates.take 200).length) else (⟨[], 0, 0⟩, ⟨0, []⟩)
theorem dstep_wt {s : Outbox × Client} {fate : Int} (h : wtOutbox s.1 ≤ 1048576) : wtOutbox (dstep s fate).1 ≤ wtOutbox s.1 ∧ wtClient (dstep s fate).2 ≤ wtClient s.2 + 2097154 := by
  have h1 := send_wt1 s.1 s.2 fate
  have h2 := send_wt2 s.1 s.2 fate
  unfold dstep; dsimp only; omega
theorem run1_wt {s : Outbox × Client} {l : List Int} (h : wtOutbox s.1 ≤ 1048576) : ∀ k, k ≤ l.length → wtOutbox (run1 s l k).1 ≤ 1048576 ∧ wtClient (run1 s l k).2 ≤ wtClient s.2 + k * 2097154
  | 0, _ => ⟨by simpa [run1] using h, by simp [run1]⟩
  | k + 1, hk => by
    have h1 := run1_wt (l := l) h k (by omega)
    have h2 := dstep_wt (fate := l[k]) h1.1
    rw [run1_succ (by omega)]
    constructor <;> omega
theorem drive_wt : ∀ (n : Nat) (s : Outbox × Client), wtOutbox s.1 ≤ 1048576 → wtOutbox (drive n s).1 ≤ 1048576 ∧ wtClient (drive n s).2 ≤ wtClient s.2 + n * 2097154
  | 0, s, h => ⟨h, by simp [drive]⟩
  | n + 1, s, h => by
    unfold drive
    split
    · have h2 := dstep_wt (s := s) (fate := 0) h
      have h1 := drive_wt n (dstep s 0) (by omega)
      constructor <;> omega
    · constructor <;> omega
theorem deliverAll_wt {rows : List Row} {fates : List Int} (h : wtRowS rows ≤ 1048576) : wtOutbox (deliverAll rows fates).1 ≤ 1048576 ∧ wtClient (deliverAll rows fates).2 ≤ 17179869184 := by
  unfold deliverAll
  split
  · have h0 : wtOutbox (⟨rows, 0, 0⟩ : Outbox) ≤ 1048576 := by simp [wtOutbox, wtInt]; omega
    have h00 : wtClient (⟨0, []⟩ : Client) = 0 := by simp [wtClient, wtRowS, wtInt]
    have hl : (fates.take 200).length ≤ 200 := by rw [List.length_take]; omega
    have h1 := run1_wt (s := (⟨rows, 0, 0⟩, ⟨0, []⟩)) (l := fates.take 200) h0 _ (Nat.le_refl _)
    have h2 := drive_wt 2000 _ h1.1
    dsimp only at h1
    rw [h00] at h1
    constructor <;> omega
  · simp [wtOutbox, wtClient, wtRowS, wtInt]
end Go.Proofs.Ytdoabhihpclliaa
