/- The types, as they are read. No condition. -/
import Derived.Test.YtaomckpfgmhapaaCF1
import Derived.Test.YtaomckpfgmhapaaCF2
set_option linter.unusedVariables false
set_option linter.unusedSimpArgs false
namespace Go.Proofs.Ytaomckpfgmhapaa
open Go Go.RowKit M
set_option maxRecDepth 10000

section
variable {α : Type} {P : α → Bool} {xs ys : List α} {k : Nat}
theorem all_zero : (xs.take 0).all P = true := by simp
theorem all_succ (h : (xs.take k).all P = true) (hk : k < xs.length) (hp : P xs[k] = true) : (xs.take (k + 1)).all P = true := by
  rw [List.take_succ_eq_append_getElem hk, List.all_append, h]; simp [hp]
theorem all_no (hk : k < xs.length) (hp : P xs[k] = false) : xs.all P = false := by
  rw [List.all_eq_false]; exact ⟨_, List.getElem_mem hk, by rw [hp]; simp⟩
theorem all_end (h : (xs.take xs.length).all P = true) : xs.all P = true := by rwa [List.take_length] at h
theorem any_succ (h : (xs.take k).any P = false) (hk : k < xs.length) (hp : P xs[k] = false) : (xs.take (k + 1)).any P = false := by
  rw [List.take_succ_eq_append_getElem hk, List.any_append, h]; simp [hp]
theorem any_yes (hk : k < xs.length) (hp : P xs[k] = true) : xs.any P = true := by
  rw [List.any_eq_true]; exact ⟨_, List.getElem_mem hk, hp⟩
theorem any_end (h : (xs.take xs.length).any P = false) : xs.any P = false := by rwa [List.take_length] at h
theorem eq_succ (h : xs.take k = ys.take k) (hk : k < xs.length) (hk' : k < ys.length) (he : xs[k] = ys[k]) : xs.take (k + 1) = ys.take (k + 1) := by
  rw [List.take_succ_eq_append_getElem hk, List.take_succ_eq_append_getElem hk', h, he]
theorem eq_no (hk : k < xs.length) (hk' : k < ys.length) (he : ¬ xs[k] = ys[k]) : ¬ xs = ys := by
  rintro rfl; exact he rfl
theorem eq_end (hl : xs.length = ys.length) (h : xs.take xs.length = ys.take xs.length) : xs = ys := by
  rw [List.take_length] at h; rw [h, hl, List.take_length]
theorem wtk {f : α → Nat} (hk : k < xs.length) : ((xs.take (k + 1)).map f).sum = ((xs.take k).map f).sum + f xs[k] := by
  rw [List.take_succ_eq_append_getElem hk, List.map_append, List.sum_append]; simp
theorem wtk_le {f : α → Nat} (xs : List α) (k : Nat) : ((xs.take k).map f).sum ≤ (xs.map f).sum := by
  have h : xs = xs.take k ++ xs.drop k := (List.take_append_drop _ _).symm
  have e : (xs.map f).sum = ((xs.take k).map f).sum + ((xs.drop k).map f).sum := by
    rw [← List.sum_append, ← List.map_append, ← h]
  omega
theorem wt_mem {f : α → Nat} (hk : k < xs.length) : f xs[k] ≤ (xs.map f).sum := by
  have h1 := wtk (f := f) hk
  have h2 := wtk_le (f := f) xs (k + 1)
  omega
noncomputable def deq (x y : α) : Bool := @decide (x = y) (Classical.propDecidable _)
theorem deq_true {x y : α} (h : x = y) : deq x y = true := @decide_eq_true _ (Classical.propDecidable _) h
theorem deq_false {x y : α} (h : ¬ x = y) : deq x y = false := @decide_eq_false _ (Classical.propDecidable _) h
theorem deq_iff {x y : α} : deq x y = true ↔ x = y := @decide_eq_true_iff _ (Classical.propDecidable _)
theorem deq_self (x : α) : deq x x = true := deq_true rfl
end
def szR (l n : Int) : Int := if n ≤ l then l - n else -1
theorem szR_yes {l n : Int} (h : n ≤ l) : szR l n = l - n := if_pos h
theorem szR_no {l n : Int} (h : l < n) : szR l n = -1 := if_neg (by omega)
theorem szR_neg {l w : Int} (_h0 : 0 ≤ l) (h : szR l w < 0) : l < w := by unfold szR at h; split at h <;> omega
theorem szR_pos {l w : Int} (h : ¬ szR l w < 0) : w ≤ l := by unfold szR at h; split at h <;> omega
theorem us_1 {us : List Value} (h : us.length = 1) : ∃ v0, us = [v0] := by
  rcases us with _ | ⟨v0, _ | ⟨v1, vs⟩⟩ <;> first | exact ⟨_, rfl⟩ | (simp at h; try omega)
theorem us_2 {us : List Value} (h : us.length = 2) : ∃ v0 v1, us = [v0, v1] := by
  rcases us with _ | ⟨v0, _ | ⟨v1, _ | ⟨v2, vs⟩⟩⟩ <;> first | exact ⟨_, _, rfl⟩ | (simp at h; try omega)
theorem us_3 {us : List Value} (h : us.length = 3) : ∃ v0 v1 v2, us = [v0, v1, v2] := by
  rcases us with _ | ⟨v0, _ | ⟨v1, _ | ⟨v2, _ | ⟨v3, vs⟩⟩⟩⟩ <;> first | exact ⟨_, _, _, rfl⟩ | (simp at h; try omega)
theorem us_4 {us : List Value} (h : us.length = 4) : ∃ v0 v1 v2 v3, us = [v0, v1, v2, v3] := by
  rcases us with _ | ⟨v0, _ | ⟨v1, _ | ⟨v2, _ | ⟨v3, _ | ⟨v4, vs⟩⟩⟩⟩⟩ <;> first | exact ⟨_, _, _, _, rfl⟩ | (simp at h; try omega)
theorem us_5 {us : List Value} (h : us.length = 5) : ∃ v0 v1 v2 v3 v4, us = [v0, v1, v2, v3, v4] := by
  rcases us with _ | ⟨v0, _ | ⟨v1, _ | ⟨v2, _ | ⟨v3, _ | ⟨v4, _ | ⟨v5, vs⟩⟩⟩⟩⟩⟩ <;> first | exact ⟨_, _, _, _, _, rfl⟩ | (simp at h; try omega)
theorem us_6 {us : List Value} (h : us.length = 6) : ∃ v0 v1 v2 v3 v4 v5, us = [v0, v1, v2, v3, v4, v5] := by
  rcases us with _ | ⟨v0, _ | ⟨v1, _ | ⟨v2, _ | ⟨v3, _ | ⟨v4, _ | ⟨v5, _ | ⟨v6, vs⟩⟩⟩⟩⟩⟩⟩ <;> first | exact ⟨_, _, _, _, _, _, rfl⟩ | (simp at h; try omega)
theorem us_7 {us : List Value} (h : us.length = 7) : ∃ v0 v1 v2 v3 v4 v5 v6, us = [v0, v1, v2, v3, v4, v5, v6] := by
  rcases us with _ | ⟨v0, _ | ⟨v1, _ | ⟨v2, _ | ⟨v3, _ | ⟨v4, _ | ⟨v5, _ | ⟨v6, _ | ⟨v7, vs⟩⟩⟩⟩⟩⟩⟩⟩ <;> first | exact ⟨_, _, _, _, _, _, _, rfl⟩ | (simp at h; try omega)
theorem us_8 {us : List Value} (h : us.length = 8) : ∃ v0 v1 v2 v3 v4 v5 v6 v7, us = [v0, v1, v2, v3, v4, v5, v6, v7] := by
  rcases us with _ | ⟨v0, _ | ⟨v1, _ | ⟨v2, _ | ⟨v3, _ | ⟨v4, _ | ⟨v5, _ | ⟨v6, _ | ⟨v7, _ | ⟨v8, vs⟩⟩⟩⟩⟩⟩⟩⟩⟩ <;> first | exact ⟨_, _, _, _, _, _, _, _, rfl⟩ | (simp at h; try omega)
theorem us_9 {us : List Value} (h : us.length = 9) : ∃ v0 v1 v2 v3 v4 v5 v6 v7 v8, us = [v0, v1, v2, v3, v4, v5, v6, v7, v8] := by
  rcases us with _ | ⟨v0, _ | ⟨v1, _ | ⟨v2, _ | ⟨v3, _ | ⟨v4, _ | ⟨v5, _ | ⟨v6, _ | ⟨v7, _ | ⟨v8, _ | ⟨v9, vs⟩⟩⟩⟩⟩⟩⟩⟩⟩⟩ <;> first | exact ⟨_, _, _, _, _, _, _, _, _, rfl⟩ | (simp at h; try omega)
theorem us_10 {us : List Value} (h : us.length = 10) : ∃ v0 v1 v2 v3 v4 v5 v6 v7 v8 v9, us = [v0, v1, v2, v3, v4, v5, v6, v7, v8, v9] := by
  rcases us with _ | ⟨v0, _ | ⟨v1, _ | ⟨v2, _ | ⟨v3, _ | ⟨v4, _ | ⟨v5, _ | ⟨v6, _ | ⟨v7, _ | ⟨v8, _ | ⟨v9, _ | ⟨v10, vs⟩⟩⟩⟩⟩⟩⟩⟩⟩⟩⟩ <;> first | exact ⟨_, _, _, _, _, _, _, _, _, _, rfl⟩ | (simp at h; try omega)
theorem us_11 {us : List Value} (h : us.length = 11) : ∃ v0 v1 v2 v3 v4 v5 v6 v7 v8 v9 v10, us = [v0, v1, v2, v3, v4, v5, v6, v7, v8, v9, v10] := by
  rcases us with _ | ⟨v0, _ | ⟨v1, _ | ⟨v2, _ | ⟨v3, _ | ⟨v4, _ | ⟨v5, _ | ⟨v6, _ | ⟨v7, _ | ⟨v8, _ | ⟨v9, _ | ⟨v10, _ | ⟨v11, vs⟩⟩⟩⟩⟩⟩⟩⟩⟩⟩⟩⟩ <;> first | exact ⟨_, _, _, _, _, _, _, _, _, _, _, rfl⟩ | (simp at h; try omega)
theorem us_12 {us : List Value} (h : us.length = 12) : ∃ v0 v1 v2 v3 v4 v5 v6 v7 v8 v9 v10 v11, us = [v0, v1, v2, v3, v4, v5, v6, v7, v8, v9, v10, v11] := by
  rcases us with _ | ⟨v0, _ | ⟨v1, _ | ⟨v2, _ | ⟨v3, _ | ⟨v4, _ | ⟨v5, _ | ⟨v6, _ | ⟨v7, _ | ⟨v8, _ | ⟨v9, _ | ⟨v10, _ | ⟨v11, _ | ⟨v12, vs⟩⟩⟩⟩⟩⟩⟩⟩⟩⟩⟩⟩⟩ <;> first | exact ⟨_, _, _, _, _, _, _, _, _, _, _, _, rfl⟩ | (simp at h; try omega)
theorem us_13 {us : List Value} (h : us.length = 13) : ∃ v0 v1 v2 v3 v4 v5 v6 v7 v8 v9 v10 v11 v12, us = [v0, v1, v2, v3, v4, v5, v6, v7, v8, v9, v10, v11, v12] := by
  rcases us with _ | ⟨v0, _ | ⟨v1, _ | ⟨v2, _ | ⟨v3, _ | ⟨v4, _ | ⟨v5, _ | ⟨v6, _ | ⟨v7, _ | ⟨v8, _ | ⟨v9, _ | ⟨v10, _ | ⟨v11, _ | ⟨v12, _ | ⟨v13, vs⟩⟩⟩⟩⟩⟩⟩⟩⟩⟩⟩⟩⟩⟩ <;> first | exact ⟨_, _, _, _, _, _, _, _, _, _, _, _, _, rfl⟩ | (simp at h; try omega)
theorem us_14 {us : List Value} (h : us.length = 14) : ∃ v0 v1 v2 v3 v4 v5 v6 v7 v8 v9 v10 v11 v12 v13, us = [v0, v1, v2, v3, v4, v5, v6, v7, v8, v9, v10, v11, v12, v13] := by
  rcases us with _ | ⟨v0, _ | ⟨v1, _ | ⟨v2, _ | ⟨v3, _ | ⟨v4, _ | ⟨v5, _ | ⟨v6, _ | ⟨v7, _ | ⟨v8, _ | ⟨v9, _ | ⟨v10, _ | ⟨v11, _ | ⟨v12, _ | ⟨v13, _ | ⟨v14, vs⟩⟩⟩⟩⟩⟩⟩⟩⟩⟩⟩⟩⟩⟩⟩ <;> first | exact ⟨_, _, _, _, _, _, _, _, _, _, _, _, _, _, rfl⟩ | (simp at h; try omega)
theorem us_15 {us : List Value} (h : us.length = 15) : ∃ v0 v1 v2 v3 v4 v5 v6 v7 v8 v9 v10 v11 v12 v13 v14, us = [v0, v1, v2, v3, v4, v5, v6, v7, v8, v9, v10, v11, v12, v13, v14] := by
  rcases us with _ | ⟨v0, _ | ⟨v1, _ | ⟨v2, _ | ⟨v3, _ | ⟨v4, _ | ⟨v5, _ | ⟨v6, _ | ⟨v7, _ | ⟨v8, _ | ⟨v9, _ | ⟨v10, _ | ⟨v11, _ | ⟨v12, _ | ⟨v13, _ | ⟨v14, _ | ⟨v15, vs⟩⟩⟩⟩⟩⟩⟩⟩⟩⟩⟩⟩⟩⟩⟩⟩ <;> first | exact ⟨_, _, _, _, _, _, _, _, _, _, _, _, _, _, _, rfl⟩ | (simp at h; try omega)
theorem us_16 {us : List Value} (h : us.length = 16) : ∃ v0 v1 v2 v3 v4 v5 v6 v7 v8 v9 v10 v11 v12 v13 v14 v15, us = [v0, v1, v2, v3, v4, v5, v6, v7, v8, v9, v10, v11, v12, v13, v14, v15] := by
  rcases us with _ | ⟨v0, _ | ⟨v1, _ | ⟨v2, _ | ⟨v3, _ | ⟨v4, _ | ⟨v5, _ | ⟨v6, _ | ⟨v7, _ | ⟨v8, _ | ⟨v9, _ | ⟨v10, _ | ⟨v11, _ | ⟨v12, _ | ⟨v13, _ | ⟨v14, _ | ⟨v15, _ | ⟨v16, vs⟩⟩⟩⟩⟩⟩⟩⟩⟩⟩⟩⟩⟩⟩⟩⟩⟩ <;> first | exact ⟨_, _, _, _, _, _, _, _, _, _, _, _, _, _, _, _, rfl⟩ | (simp at h; try omega)
theorem us_17 {us : List Value} (h : us.length = 17) : ∃ v0 v1 v2 v3 v4 v5 v6 v7 v8 v9 v10 v11 v12 v13 v14 v15 v16, us = [v0, v1, v2, v3, v4, v5, v6, v7, v8, v9, v10, v11, v12, v13, v14, v15, v16] := by
  rcases us with _ | ⟨v0, _ | ⟨v1, _ | ⟨v2, _ | ⟨v3, _ | ⟨v4, _ | ⟨v5, _ | ⟨v6, _ | ⟨v7, _ | ⟨v8, _ | ⟨v9, _ | ⟨v10, _ | ⟨v11, _ | ⟨v12, _ | ⟨v13, _ | ⟨v14, _ | ⟨v15, _ | ⟨v16, _ | ⟨v17, vs⟩⟩⟩⟩⟩⟩⟩⟩⟩⟩⟩⟩⟩⟩⟩⟩⟩⟩ <;> first | exact ⟨_, _, _, _, _, _, _, _, _, _, _, _, _, _, _, _, _, rfl⟩ | (simp at h; try omega)
theorem us_18 {us : List Value} (h : us.length = 18) : ∃ v0 v1 v2 v3 v4 v5 v6 v7 v8 v9 v10 v11 v12 v13 v14 v15 v16 v17, us = [v0, v1, v2, v3, v4, v5, v6, v7, v8, v9, v10, v11, v12, v13, v14, v15, v16, v17] := by
  rcases us with _ | ⟨v0, _ | ⟨v1, _ | ⟨v2, _ | ⟨v3, _ | ⟨v4, _ | ⟨v5, _ | ⟨v6, _ | ⟨v7, _ | ⟨v8, _ | ⟨v9, _ | ⟨v10, _ | ⟨v11, _ | ⟨v12, _ | ⟨v13, _ | ⟨v14, _ | ⟨v15, _ | ⟨v16, _ | ⟨v17, _ | ⟨v18, vs⟩⟩⟩⟩⟩⟩⟩⟩⟩⟩⟩⟩⟩⟩⟩⟩⟩⟩⟩ <;> first | exact ⟨_, _, _, _, _, _, _, _, _, _, _, _, _, _, _, _, _, _, rfl⟩ | (simp at h; try omega)
theorem us_19 {us : List Value} (h : us.length = 19) : ∃ v0 v1 v2 v3 v4 v5 v6 v7 v8 v9 v10 v11 v12 v13 v14 v15 v16 v17 v18, us = [v0, v1, v2, v3, v4, v5, v6, v7, v8, v9, v10, v11, v12, v13, v14, v15, v16, v17, v18] := by
  rcases us with _ | ⟨v0, _ | ⟨v1, _ | ⟨v2, _ | ⟨v3, _ | ⟨v4, _ | ⟨v5, _ | ⟨v6, _ | ⟨v7, _ | ⟨v8, _ | ⟨v9, _ | ⟨v10, _ | ⟨v11, _ | ⟨v12, _ | ⟨v13, _ | ⟨v14, _ | ⟨v15, _ | ⟨v16, _ | ⟨v17, _ | ⟨v18, _ | ⟨v19, vs⟩⟩⟩⟩⟩⟩⟩⟩⟩⟩⟩⟩⟩⟩⟩⟩⟩⟩⟩⟩ <;> first | exact ⟨_, _, _, _, _, _, _, _, _, _, _, _, _, _, _, _, _, _, _, rfl⟩ | (simp at h; try omega)
theorem us_20 {us : List Value} (h : us.length = 20) : ∃ v0 v1 v2 v3 v4 v5 v6 v7 v8 v9 v10 v11 v12 v13 v14 v15 v16 v17 v18 v19, us = [v0, v1, v2, v3, v4, v5, v6, v7, v8, v9, v10, v11, v12, v13, v14, v15, v16, v17, v18, v19] := by
  rcases us with _ | ⟨v0, _ | ⟨v1, _ | ⟨v2, _ | ⟨v3, _ | ⟨v4, _ | ⟨v5, _ | ⟨v6, _ | ⟨v7, _ | ⟨v8, _ | ⟨v9, _ | ⟨v10, _ | ⟨v11, _ | ⟨v12, _ | ⟨v13, _ | ⟨v14, _ | ⟨v15, _ | ⟨v16, _ | ⟨v17, _ | ⟨v18, _ | ⟨v19, _ | ⟨v20, vs⟩⟩⟩⟩⟩⟩⟩⟩⟩⟩⟩⟩⟩⟩⟩⟩⟩⟩⟩⟩⟩ <;> first | exact ⟨_, _, _, _, _, _, _, _, _, _, _, _, _, _, _, _, _, _, _, _, rfl⟩ | (simp at h; try omega)
theorem us_21 {us : List Value} (h : us.length = 21) : ∃ v0 v1 v2 v3 v4 v5 v6 v7 v8 v9 v10 v11 v12 v13 v14 v15 v16 v17 v18 v19 v20, us = [v0, v1, v2, v3, v4, v5, v6, v7, v8, v9, v10, v11, v12, v13, v14, v15, v16, v17, v18, v19, v20] := by
  rcases us with _ | ⟨v0, _ | ⟨v1, _ | ⟨v2, _ | ⟨v3, _ | ⟨v4, _ | ⟨v5, _ | ⟨v6, _ | ⟨v7, _ | ⟨v8, _ | ⟨v9, _ | ⟨v10, _ | ⟨v11, _ | ⟨v12, _ | ⟨v13, _ | ⟨v14, _ | ⟨v15, _ | ⟨v16, _ | ⟨v17, _ | ⟨v18, _ | ⟨v19, _ | ⟨v20, _ | ⟨v21, vs⟩⟩⟩⟩⟩⟩⟩⟩⟩⟩⟩⟩⟩⟩⟩⟩⟩⟩⟩⟩⟩⟩ <;> first | exact ⟨_, _, _, _, _, _, _, _, _, _, _, _, _, _, _, _, _, _, _, _, _, rfl⟩ | (simp at h; try omega)
theorem us_22 {us : List Value} (h : us.length = 22) : ∃ v0 v1 v2 v3 v4 v5 v6 v7 v8 v9 v10 v11 v12 v13 v14 v15 v16 v17 v18 v19 v20 v21, us = [v0, v1, v2, v3, v4, v5, v6, v7, v8, v9, v10, v11, v12, v13, v14, v15, v16, v17, v18, v19, v20, v21] := by
  rcases us with _ | ⟨v0, _ | ⟨v1, _ | ⟨v2, _ | ⟨v3, _ | ⟨v4, _ | ⟨v5, _ | ⟨v6, _ | ⟨v7, _ | ⟨v8, _ | ⟨v9, _ | ⟨v10, _ | ⟨v11, _ | ⟨v12, _ | ⟨v13, _ | ⟨v14, _ | ⟨v15, _ | ⟨v16, _ | ⟨v17, _ | ⟨v18, _ | ⟨v19, _ | ⟨v20, _ | ⟨v21, _ | ⟨v22, vs⟩⟩⟩⟩⟩⟩⟩⟩⟩⟩⟩⟩⟩⟩⟩⟩⟩⟩⟩⟩⟩⟩⟩ <;> first | exact ⟨_, _, _, _, _, _, _, _, _, _, _, _, _, _, _, _, _, _, _, _, _, _, rfl⟩ | (simp at h; try omega)
theorem us_23 {us : List Value} (h : us.length = 23) : ∃ v0 v1 v2 v3 v4 v5 v6 v7 v8 v9 v10 v11 v12 v13 v14 v15 v16 v17 v18 v19 v20 v21 v22, us = [v0, v1, v2, v3, v4, v5, v6, v7, v8, v9, v10, v11, v12, v13, v14, v15, v16, v17, v18, v19, v20, v21, v22] := by
  rcases us with _ | ⟨v0, _ | ⟨v1, _ | ⟨v2, _ | ⟨v3, _ | ⟨v4, _ | ⟨v5, _ | ⟨v6, _ | ⟨v7, _ | ⟨v8, _ | ⟨v9, _ | ⟨v10, _ | ⟨v11, _ | ⟨v12, _ | ⟨v13, _ | ⟨v14, _ | ⟨v15, _ | ⟨v16, _ | ⟨v17, _ | ⟨v18, _ | ⟨v19, _ | ⟨v20, _ | ⟨v21, _ | ⟨v22, _ | ⟨v23, vs⟩⟩⟩⟩⟩⟩⟩⟩⟩⟩⟩⟩⟩⟩⟩⟩⟩⟩⟩⟩⟩⟩⟩⟩ <;> first | exact ⟨_, _, _, _, _, _, _, _, _, _, _, _, _, _, _, _, _, _, _, _, _, _, _, rfl⟩ | (simp at h; try omega)
theorem us_24 {us : List Value} (h : us.length = 24) : ∃ v0 v1 v2 v3 v4 v5 v6 v7 v8 v9 v10 v11 v12 v13 v14 v15 v16 v17 v18 v19 v20 v21 v22 v23, us = [v0, v1, v2, v3, v4, v5, v6, v7, v8, v9, v10, v11, v12, v13, v14, v15, v16, v17, v18, v19, v20, v21, v22, v23] := by
  rcases us with _ | ⟨v0, _ | ⟨v1, _ | ⟨v2, _ | ⟨v3, _ | ⟨v4, _ | ⟨v5, _ | ⟨v6, _ | ⟨v7, _ | ⟨v8, _ | ⟨v9, _ | ⟨v10, _ | ⟨v11, _ | ⟨v12, _ | ⟨v13, _ | ⟨v14, _ | ⟨v15, _ | ⟨v16, _ | ⟨v17, _ | ⟨v18, _ | ⟨v19, _ | ⟨v20, _ | ⟨v21, _ | ⟨v22, _ | ⟨v23, _ | ⟨v24, vs⟩⟩⟩⟩⟩⟩⟩⟩⟩⟩⟩⟩⟩⟩⟩⟩⟩⟩⟩⟩⟩⟩⟩⟩⟩ <;> first | exact ⟨_, _, _, _, _, _, _, _, _, _, _, _, _, _, _, _, _, _, _, _, _, _, _, _, rfl⟩ | (simp at h; try omega)
def cU8 (x : Int) : List PV := [PV.val (.int .u8 x)]
def gdU8 (_x : Int) : Prop := True
def wtU8 (_x : Int) : Nat := 0
def cU8S (o0 : Fl) (x : List Int) : List PV := [PV.sl o0 (x.map cU8)]
def gdU8S (x : List Int) : Prop := ∀ y ∈ x, gdU8 y
def wtU8S (x : List Int) : Nat := x.length + (x.map wtU8).sum
def cInt (x : Int) : List PV := [PV.val (vI x)]
def gdInt (x : Int) : Prop := I64 x
def wtInt (_x : Int) : Nat := 0
def cIntS (o0 : Fl) (x : List Int) : List PV := [PV.sl o0 (x.map cInt)]
def gdIntS (x : List Int) : Prop := ∀ y ∈ x, gdInt y
def wtIntS (x : List Int) : Nat := x.length + (x.map wtInt).sum
structure Row where
  Id : Int
  Values : List Int
def cRow (o0 : Fl) (x : Row) : List PV := [PV.val (vI x.Id), PV.sl o0 (x.Values.map cInt)]
def gdRow (x : Row) : Prop := gdInt x.Id ∧ gdIntS x.Values
def wtRow (x : Row) : Nat := wtInt x.Id + wtIntS x.Values
theorem ext_Row {x y : Row} (h0 : x.Id = y.Id) (h1 : x.Values = y.Values) : x = y := by cases x; cases y; simp_all
structure Annotated where
  Row : Row
  Set : List Int
def cAnnotated (o0 o1 : Fl) (x : Annotated) : List PV := [PV.val (vI x.Row.Id), PV.sl o0 (x.Row.Values.map cInt), PV.sl o1 (x.Set.map cInt)]
def gdAnnotated (x : Annotated) : Prop := gdRow x.Row ∧ gdIntS x.Set
def wtAnnotated (x : Annotated) : Nat := wtRow x.Row + wtIntS x.Set
theorem ext_Annotated {x y : Annotated} (h0 : x.Row = y.Row) (h1 : x.Set = y.Set) : x = y := by cases x; cases y; simp_all
def cAnnotatedS (o0 o1 o2 : Fl) (x : List Annotated) : List PV := [PV.sl o0 (x.map (cAnnotated o1 o2))]
def gdAnnotatedS (x : List Annotated) : Prop := ∀ y ∈ x, gdAnnotated y
def wtAnnotatedS (x : List Annotated) : Nat := x.length + (x.map wtAnnotated).sum
structure Cond where
  Field : Int
  Low : Int
  High : Int
def cCond (x : Cond) : List PV := [PV.val (vI x.Field), PV.val (vI x.Low), PV.val (vI x.High)]
def gdCond (x : Cond) : Prop := gdInt x.Field ∧ gdInt x.Low ∧ gdInt x.High
def wtCond (x : Cond) : Nat := wtInt x.Field + wtInt x.Low + wtInt x.High
theorem ext_Cond {x y : Cond} (h0 : x.Field = y.Field) (h1 : x.Low = y.Low) (h2 : x.High = y.High) : x = y := by cases x; cases y; simp_all
def cCondS (o0 : Fl) (x : List Cond) : List PV := [PV.sl o0 (x.map cCond)]
def gdCondS (x : List Cond) : Prop := ∀ y ∈ x, gdCond y
def wtCondS (x : List Cond) : Nat := x.length + (x.map wtCond).sum
structure Query where
  Id : Int
  Tenant : Int
  Conds : List Cond
  Out : List Int
def cQuery (o0 o1 : Fl) (x : Query) : List PV := [PV.val (vI x.Id), PV.val (vI x.Tenant), PV.sl o0 (x.Conds.map cCond), PV.sl o1 (x.Out.map cInt)]
def gdQuery (x : Query) : Prop := gdInt x.Id ∧ gdInt x.Tenant ∧ gdCondS x.Conds ∧ gdIntS x.Out
def wtQuery (x : Query) : Nat := wtInt x.Id + wtInt x.Tenant + wtCondS x.Conds + wtIntS x.Out
theorem ext_Query {x y : Query} (h0 : x.Id = y.Id) (h1 : x.Tenant = y.Tenant) (h2 : x.Conds = y.Conds) (h3 : x.Out = y.Out) : x = y := by cases x; cases y; simp_all
def cQueryS (o0 o1 o2 : Fl) (x : List Query) : List PV := [PV.sl o0 (x.map (cQuery o1 o2))]
def gdQueryS (x : List Query) : Prop := ∀ y ∈ x, gdQuery y
def wtQueryS (x : List Query) : Nat := x.length + (x.map wtQuery).sum
structure Span where
  From : Int
  To : Int
  Set : List Int
def cSpan (o0 : Fl) (x : Span) : List PV := [PV.val (vI x.From), PV.val (vI x.To), PV.sl o0 (x.Set.map cInt)]
def gdSpan (x : Span) : Prop := gdInt x.From ∧ gdInt x.To ∧ gdIntS x.Set
def wtSpan (x : Span) : Nat := wtInt x.From + wtInt x.To + wtIntS x.Set
theorem ext_Span {x y : Span} (h0 : x.From = y.From) (h1 : x.To = y.To) (h2 : x.Set = y.Set) : x = y := by cases x; cases y; simp_all
def cSpanS (o0 o1 : Fl) (x : List Span) : List PV := [PV.sl o0 (x.map (cSpan o1))]
def gdSpanS (x : List Span) : Prop := ∀ y ∈ x, gdSpan y
def wtSpanS (x : List Span) : Nat := x.length + (x.map wtSpan).sum
def cSpanSS (o0 o1 o2 : Fl) (x : List (List Span)) : List PV := [PV.sl o0 (x.map (cSpanS o1 o2))]
def gdSpanSS (x : List (List Span)) : Prop := ∀ y ∈ x, gdSpanS y
def wtSpanSS (x : List (List Span)) : Nat := x.length + (x.map wtSpanS).sum
structure Index where
  Queries : List Query
  Fields : List (List Span)
def cIndex (o0 o1 o2 o3 o4 o5 : Fl) (x : Index) : List PV := [PV.sl o0 (x.Queries.map (cQuery o1 o2)), PV.sl o3 (x.Fields.map (cSpanS o4 o5))]
def gdIndex (x : Index) : Prop := gdQueryS x.Queries ∧ gdSpanSS x.Fields
def wtIndex (x : Index) : Nat := wtQueryS x.Queries + wtSpanSS x.Fields
theorem ext_Index {x y : Index} (h0 : x.Queries = y.Queries) (h1 : x.Fields = y.Fields) : x = y := by cases x; cases y; simp_all
structure Joined where
  Left : Int
  Right : Int
  Set : List Int
def cJoined (o0 : Fl) (x : Joined) : List PV := [PV.val (vI x.Left), PV.val (vI x.Right), PV.sl o0 (x.Set.map cInt)]
def gdJoined (x : Joined) : Prop := gdInt x.Left ∧ gdInt x.Right ∧ gdIntS x.Set
def wtJoined (x : Joined) : Nat := wtInt x.Left + wtInt x.Right + wtIntS x.Set
theorem ext_Joined {x y : Joined} (h0 : x.Left = y.Left) (h1 : x.Right = y.Right) (h2 : x.Set = y.Set) : x = y := by cases x; cases y; simp_all
def cJoinedS (o0 o1 : Fl) (x : List Joined) : List PV := [PV.sl o0 (x.map (cJoined o1))]
def gdJoinedS (x : List Joined) : Prop := ∀ y ∈ x, gdJoined y
def wtJoinedS (x : List Joined) : Nat := x.length + (x.map wtJoined).sum
def cRowS (o0 o1 : Fl) (x : List Row) : List PV := [PV.sl o0 (x.map (cRow o1))]
def gdRowS (x : List Row) : Prop := ∀ y ∈ x, gdRow y
def wtRowS (x : List Row) : Nat := x.length + (x.map wtRow).sum
structure Routed where
  Id : Int
  Rows : List Row
def cRouted (o0 o1 : Fl) (x : Routed) : List PV := [PV.val (vI x.Id), PV.sl o0 (x.Rows.map (cRow o1))]
def gdRouted (x : Routed) : Prop := gdInt x.Id ∧ gdRowS x.Rows
def wtRouted (x : Routed) : Nat := wtInt x.Id + wtRowS x.Rows
theorem ext_Routed {x y : Routed} (h0 : x.Id = y.Id) (h1 : x.Rows = y.Rows) : x = y := by cases x; cases y; simp_all
def cRoutedS (o0 o1 o2 : Fl) (x : List Routed) : List PV := [PV.sl o0 (x.map (cRouted o1 o2))]
def gdRoutedS (x : List Routed) : Prop := ∀ y ∈ x, gdRouted y
def wtRoutedS (x : List Routed) : Nat := x.length + (x.map wtRouted).sum
theorem fm_succ {α β : Type} {xs : List α} {g : α → List β} {k : Nat} (hk : k < xs.length) : (xs.take (k + 1)).flatMap g = (xs.take k).flatMap g ++ g xs[k] := by
  rw [List.take_succ_eq_append_getElem hk, List.flatMap_append]; simp
theorem fm_le {α β : Type} {xs : List α} {g : α → List β} (h : ∀ x, (g x).length ≤ 1) : (xs.flatMap g).length ≤ xs.length := by
  induction xs with
  | nil => simp
  | cons x xs ih => have := h x; simp only [List.flatMap_cons, List.length_append, List.length_cons]; omega
theorem fm_lek {α β : Type} {xs : List α} {g : α → List β} (h : ∀ x, (g x).length ≤ 1) (k : Nat) : ((xs.take k).flatMap g).length ≤ k := by
  have h1 := fm_le (xs := xs.take k) h
  rw [List.length_take] at h1
  omega
theorem tk_succ {α : Type} {xs : List α} {k : Nat} (hk : k < xs.length) : xs.take (k + 1) = xs.take k ++ [xs[k]] := List.take_succ_eq_append_getElem hk
theorem wt_drop {α : Type} {f : α → Nat} (xs : List α) (n : Nat) : (xs.drop n).length + ((xs.drop n).map f).sum ≤ xs.length + (xs.map f).sum := by
  have e : (xs.map f).sum = ((xs.take n).map f).sum + ((xs.drop n).map f).sum := by
    rw [← List.sum_append, ← List.map_append, List.take_append_drop]
  rw [List.length_drop]; omega
theorem wt_take {α : Type} {f : α → Nat} (xs : List α) (n : Nat) : (xs.take n).length + ((xs.take n).map f).sum ≤ xs.length + (xs.map f).sum := by
  have e : (xs.map f).sum = ((xs.take n).map f).sum + ((xs.drop n).map f).sum := by
    rw [← List.sum_append, ← List.map_append, List.take_append_drop]
  rw [List.length_take]; omega
theorem gDt_ {α : Type} {l : List α} {d : α} {i : Nat} (h : i < l.length) : l[i] = l.getD i d := by simp [h]
theorem map_take_succ {α β : Type} {l : List α} {f : α → β} {k : Nat} (h : k < l.length) : (l.take (k + 1)).map f = (l.take k).map f ++ [f l[k]] := by
  rw [List.take_succ_eq_append_getElem h, List.map_append]; rfl
theorem beq_dec {a b : Int} : (a == b) = decide (a = b) := rfl
theorem wtIntS_len (x : List Int) : wtIntS x = x.length := by
  have h : ∀ l : List Int, (l.map wtInt).sum = 0 := by
    intro l
    induction l with
    | nil => rfl
    | cons a l ih => rw [List.map_cons, List.sum_cons, ih]; rfl
  simp [wtIntS, h]
def hasI (xs : List Int) (x : Int) : Bool := xs.any (fun y => y == x)
def inB (n l h : Int) : Bool := decide (l ≤ n) && decide (n ≤ h)
def asI (x : Int) : List (Bool × List PV) := [(false, [PV.val (vI x)])]
def rsB {γ : Type} (q : γ → Bool) (x : γ) : RV := RV.sv false [PV.val (.bool (q x))]

def okVal (v : Int) : Bool := inB v 0 99
def okRow (r : Row) : Bool := r.Values.all okVal && (inB r.Id 0 999 && decide ((r.Values.length : Int) = 3))
def okRows (l : List Row) : Bool := l.all okRow && decide ((l.length : Int) ≤ 1000)
def annOk (l : List Annotated) (f : Int) : Bool := l.all (fun a => okRow a.Row) && inB f 0 2
def valAt (r : Row) (f : Int) : Int := r.Values.getD f.toNat 0
theorem valAt_eq {r : Row} {f : Int} (h : f.toNat < r.Values.length) : r.Values[f.toNat] = valAt r f := by simp [valAt, h]
theorem okRow_len {r : Row} (h : okRow r = true) : r.Values.length = 3 := by simp [okRow, inB] at h; omega
theorem annOk_at {l : List Annotated} {f : Int} (h : annOk l f = true) {k : Nat} (hk : k < l.length) : f.toNat < l[k].Row.Values.length ∧ 0 ≤ f ∧ f ≤ 2 := by
  unfold annOk at h
  rw [Bool.and_eq_true] at h
  have h1 := okRow_len (List.all_eq_true.1 h.1 _ (List.getElem_mem hk))
  have h2 := h.2
  simp [inB] at h2
  omega
theorem ext_Row_iff {x y : Row} : x = y ↔ x.Id = y.Id ∧ x.Values = y.Values := by cases x; cases y; simp_all
def as2 {α : Type} (f : α → Bool × List PV) (x : α × α) : List (Bool × List PV) := [f x.1, f x.2]
noncomputable def deq2 {α : Type} (x : α × α) : Bool := deq x.1 x.2
def okSet (l : List Int) : Bool := (List.range l.length).all fun i => inB (l.getD i 0) 0 23 && (i == 0 || decide (l.getD (i - 1) 0 < l.getD i 0))
def okSetTo (l : List Int) (k : Nat) : Bool := (List.range k).all fun i => inB (l.getD i 0) 0 23 && (i == 0 || decide (l.getD (i - 1) 0 < l.getD i 0))
theorem okSetTo_succ {l : List Int} {k : Nat} : okSetTo l (k + 1) = (okSetTo l k && (inB (l.getD k 0) 0 23 && (k == 0 || decide (l.getD (k - 1) 0 < l.getD k 0)))) := by
  simp [okSetTo, List.range_succ]
theorem okSetTo_no {l : List Int} {k : Nat} (hk : k < l.length) (h : (inB (l.getD k 0) 0 23 && (k == 0 || decide (l.getD (k - 1) 0 < l.getD k 0))) = false) : okSet l = false := by
  cases hs : okSet l with
  | false => rfl
  | true =>
    have := List.all_eq_true.1 hs k (List.mem_range.2 hk)
    rw [h] at this; cases this
theorem okStep {l : List Int} {k : Nat} : (inB (l.getD k 0) 0 23 && (k == 0 || decide (l.getD (k - 1) 0 < l.getD k 0))) = true ↔ (0 ≤ l.getD k 0 ∧ l.getD k 0 ≤ 23 ∧ (k = 0 ∨ l.getD (k - 1) 0 < l.getD k 0)) := by
  simp [inB, and_assoc]
def pickL (q : Int → Bool) (k : Nat) : List Int := ((List.range k).map fun i : Nat => (i : Int)).filter q
theorem pickL_succ {q : Int → Bool} {k : Nat} : pickL q (k + 1) = pickL q k ++ if q k then [(k : Int)] else [] := by
  simp only [pickL, List.range_succ, List.map_append, List.filter_append, List.map_cons, List.map_nil, List.filter_cons, List.filter_nil]
theorem pickL_len (q : Int → Bool) (k : Nat) : (pickL q k).length ≤ k := by
  have := List.length_filter_le q ((List.range k).map fun i : Nat => (i : Int))
  simpa [pickL] using this
def MeetSetsF (a b : List Int) : List Int := if okSet a && okSet b then pickL (fun x => hasI a x && hasI b x) 24 else []
theorem mem_hasI {l : List Int} {x : Int} : hasI l x = true ↔ x ∈ l := by simp [hasI]
theorem okSet_at {l : List Int} (h : okSet l = true) {k : Nat} (hk : k < l.length) : 0 ≤ l[k] ∧ l[k] ≤ 23 ∧ (k = 0 ∨ l.getD (k - 1) 0 < l[k]) := by
  have := okStep.1 (List.all_eq_true.1 h k (List.mem_range.2 hk))
  rwa [show l.getD k 0 = l[k] by simp [hk]] at this
theorem okSet_lt {l : List Int} (h : okSet l = true) : ∀ (j i : Nat) (hj : j < l.length) (hi : i < j), l[i] < l[j]
  | 0, i, _, hi => by omega
  | j + 1, i, hj, hi => by
    have h1 := (okSet_at h hj).2.2
    have e : l.getD (j + 1 - 1) 0 = l[j] := by simp [show j < l.length by omega]
    rw [e] at h1
    rcases Nat.lt_or_ge i j with h2 | h2
    · have := okSet_lt h j i (by omega) h2
      omega
    · have : i = j := by omega
      subst this
      omega
theorem okSet_pw {l : List Int} (h : okSet l = true) : l.Pairwise (· < ·) := by
  rw [List.pairwise_iff_getElem]
  intro i j hi hj hij
  exact okSet_lt h j i hj hij
theorem filt_succ {m : Int} : ∀ {l : List Int}, l.Pairwise (· < ·) → l.filter (fun x => decide (x < m + 1)) = l.filter (fun x => decide (x < m)) ++ (if hasI l m then [m] else [])
  | [], _ => by simp [hasI]
  | x :: l, h => by
    rw [List.pairwise_cons] at h
    have ih := filt_succ (m := m) h.2
    have hhx : hasI (x :: l) m = (x == m || hasI l m) := by simp [hasI]
    by_cases h1 : x < m
    · have e1 : decide (x < m + 1) = true := by simp; omega
      have e2 : decide (x < m) = true := by simpa using h1
      rw [List.filter_cons, List.filter_cons, if_pos e1, if_pos e2, ih, hhx, show (x == m) = false by simp; omega, Bool.false_or]
      rfl
    · have hl : l.filter (fun x => decide (x < m)) = [] := by
        rw [List.filter_eq_nil_iff]; intro y hy; have := h.1 y hy; simp; omega
      have hl1 : l.filter (fun x => decide (x < m + 1)) = [] := by
        rw [List.filter_eq_nil_iff]; intro y hy; have := h.1 y hy; simp; omega
      have hm : hasI l m = false := by
        cases hc : hasI l m with
        | false => rfl
        | true => have := h.1 m (mem_hasI.1 hc); omega
      have e2 : ¬ decide (x < m) = true := by simpa using h1
      by_cases h2 : x = m
      · have e1 : decide (x < m + 1) = true := by simp; omega
        rw [List.filter_cons, List.filter_cons, if_pos e1, if_neg e2, hl, hl1, hhx, hm, show (x == m) = true by simpa using h2]
        simp [h2]
      · have e1 : ¬ decide (x < m + 1) = true := by simp; omega
        rw [List.filter_cons, List.filter_cons, if_neg e1, if_neg e2, hl, hl1, hhx, hm, show (x == m) = false by simpa using h2]
        simp
theorem pick_has {l : List Int} (h : okSet l = true) : ∀ m : Nat, pickL (fun x => hasI l x) m = l.filter (fun x => decide (x < (m : Int)))
  | 0 => by
    rw [show pickL (fun x => hasI l x) 0 = [] from rfl, eq_comm, List.filter_eq_nil_iff]
    intro y hy
    obtain ⟨k, hk, rfl⟩ := List.mem_iff_getElem.1 hy
    have := (okSet_at h hk).1
    simp; omega
  | m + 1 => by
    rw [pickL_succ, pick_has h m]
    have := filt_succ (m := (m : Int)) (okSet_pw h)
    rw [show ((m + 1 : Nat) : Int) = (m : Int) + 1 by omega, this]
theorem pick_all {l : List Int} (h : okSet l = true) : pickL (fun x => hasI l x) 24 = l := by
  rw [pick_has h, List.filter_eq_self]
  intro y hy
  obtain ⟨k, hk, rfl⟩ := List.mem_iff_getElem.1 hy
  have := (okSet_at h hk).2.1
  simp; omega
theorem okSet_len {l : List Int} (h : okSet l = true) : l.length ≤ 24 := by
  have := pickL_len (fun x => hasI l x) 24
  rwa [pick_all h] at this
theorem meet_eq {a b : List Int} (h : okSet a = true) : a.filter (fun x => hasI b x) = pickL (fun x => hasI a x && hasI b x) 24 := by
  conv => lhs; rw [← pick_all h]
  simp only [pickL, List.filter_filter]
  congr 1
  funext x
  exact Bool.and_comm _ _
theorem meet_end {a b : List Int} {k : Nat} (hk : 0 < k → (okSet a && okSet b) = true) (h : (k = a.length ∧ (okSet a && okSet b) = true) ∨ (k = 0 ∧ (a.length = 0 ∨ (okSet a && okSet b) = false))) : (a.take k).filter (fun x => hasI b x) = MeetSetsF a b := by
  unfold MeetSetsF
  rcases h with ⟨rfl, h⟩ | ⟨rfl, h⟩
  · rw [List.take_length, if_pos h]
    rw [Bool.and_eq_true] at h
    exact meet_eq h.1
  · split
    · rename_i h2
      rcases h with h | h
      · have : a = [] := List.eq_nil_of_length_eq_zero h
        subst this
        rw [Bool.and_eq_true] at h2
        rw [← meet_eq h2.1]; simp
      · rw [h] at h2; cases h2
    · simp
def annAll (l : List Row) (n : Int) : List Annotated := l.map fun r => ⟨r, [n]⟩
theorem annAll_len (l : List Row) (n : Int) : (annAll l n).length = l.length := by simp [annAll]
theorem annAll_succ {l : List Row} {n : Int} {k : Nat} (h : k < l.length) : annAll (l.take (k + 1)) n = annAll (l.take k) n ++ [⟨l[k], [n]⟩] := by
  rw [List.take_succ_eq_append_getElem h]; simp only [annAll, List.map_append]; rfl
theorem MeetSetsF_len (a b : List Int) : (MeetSetsF a b).length ≤ 24 := by
  unfold MeetSetsF
  split
  · exact pickL_len _ _
  · simp
def adjTo {α : Type} (d : α) (p : α → Bool) (r : α → α → Bool) (l : List α) (k : Nat) : Bool := (List.range k).all fun i => p (l.getD i d) && (i == 0 || r (l.getD (i - 1) d) (l.getD i d))
def adjAll {α : Type} (d : α) (p : α → Bool) (r : α → α → Bool) (l : List α) : Bool := adjTo d p r l l.length
theorem adjTo_succ {α : Type} {d : α} {p : α → Bool} {r : α → α → Bool} {l : List α} {k : Nat} : adjTo d p r l (k + 1) = (adjTo d p r l k && (p (l.getD k d) && (k == 0 || r (l.getD (k - 1) d) (l.getD k d)))) := by
  simp [adjTo, List.range_succ]
theorem adjStep {α : Type} {d : α} {p : α → Bool} {r : α → α → Bool} {l : List α} {k : Nat} : (p (l.getD k d) && (k == 0 || r (l.getD (k - 1) d) (l.getD k d))) = true ↔ (p (l.getD k d) = true ∧ (k = 0 ∨ r (l.getD (k - 1) d) (l.getD k d) = true)) := by
  simp
theorem adj_no {α : Type} {d : α} {p : α → Bool} {r : α → α → Bool} {l : List α} {k : Nat} (hk : k < l.length) (h : (p (l.getD k d) && (k == 0 || r (l.getD (k - 1) d) (l.getD k d))) = false) : adjAll d p r l = false := by
  cases hs : adjAll d p r l with
  | false => rfl
  | true =>
    have := List.all_eq_true.1 hs k (List.mem_range.2 hk)
    rw [h] at this; cases this
theorem adj_end {α : Type} {d : α} {p : α → Bool} {r : α → α → Bool} {l : List α} {k : Nat} (h : adjTo d p r l k = true) (hk : k = l.length) : adjAll d p r l = true := by subst hk; exact h
theorem getD_at {α : Type} {d : α} {l : List α} {k : Nat} (h : k < l.length) : l.getD k d = l[k] := by simp [h]
def okCond (c : Cond) : Bool := inB c.Field 0 2 && (decide (0 ≤ c.Low) && (decide (c.Low ≤ c.High) && decide (c.High ≤ 99)))
def ltField (a b : Cond) : Bool := decide (a.Field < b.Field)
def okConds (l : List Cond) : Bool := adjAll ⟨0, 0, 0⟩ okCond ltField l
def okOut (v : Int) : Bool := inB v 0 2
def okFields (l : List Int) : Bool := l.all okOut && inB l.length 1 3
def okQuery (q : Query) : Bool := (inB q.Id 0 23 && (inB q.Tenant 0 3 && decide ((q.Conds.length : Int) ≤ 3))) && (okConds q.Conds && okFields q.Out)
theorem inB_iff {n l h : Int} : inB n l h = true ↔ l ≤ n ∧ n ≤ h := by simp [inB]
theorem gDt {α : Type} {l : List α} {d : α} {i : Nat} (h : i < l.length) : l[i] = l.getD i d := by simp [h]
def atI (l : List Int) (f : Int) : Int := l.getD f.toNat 0
def condOk (r : Row) (c : Cond) : Bool := inB (atI r.Values c.Field) c.Low c.High
def matchRow (q : Query) (r : Row) : Bool := (okRow r && okQuery q) && q.Conds.all (condOk r)
def admC (f v : Int) (c : Cond) : Bool := !(c.Field == f) || inB v c.Low c.High
def admitsV (q : Query) (f v : Int) : Bool := q.Conds.all (admC f v)
theorem rowLen {r : Row} (h : okRow r = true) : r.Values.length = 3 := by simp [okRow, inB] at h; omega
theorem adjAt {α : Type} {d : α} {p : α → Bool} {r : α → α → Bool} {l : List α} (h : adjAll d p r l = true) {k : Nat} (hk : k < l.length) : p l[k] = true := by
  have := List.all_eq_true.1 h k (List.mem_range.2 hk)
  rw [Bool.and_eq_true, getD_at hk] at this
  exact this.1
theorem condField {q : Query} (h : okQuery q = true) {c : Cond} (hc : c ∈ q.Conds) : 0 ≤ c.Field ∧ c.Field ≤ 2 := by
  obtain ⟨k, hk, rfl⟩ := List.mem_iff_getElem.1 hc
  unfold okQuery okConds at h
  simp only [Bool.and_eq_true] at h
  have := adjAt h.2.1 hk
  simp [okCond, inB] at this
  omega
theorem match_yes {q : Query} {r : Row} (hq : okQuery q = true) (hr : okRow r = true) (h : ∀ i : Nat, i < r.Values.length → admitsV q (i : Int) (r.Values.getD i 0) = true) : matchRow q r = true := by
  unfold matchRow
  rw [hr, hq, Bool.and_self, Bool.true_and, List.all_eq_true]
  intro c hc
  have hf := condField hq hc
  have hl := rowLen hr
  have := List.all_eq_true.1 (h c.Field.toNat (by omega)) c hc
  unfold admC at this
  rw [Int.toNat_of_nonneg hf.1] at this
  simpa [condOk, atI] using this
theorem match_no {q : Query} {r : Row} {i : Nat} (h : admitsV q (i : Int) (r.Values.getD i 0) = false) : matchRow q r = false := by
  rw [← Bool.not_eq_true]
  intro hm
  unfold matchRow at hm
  rw [Bool.and_eq_true, List.all_eq_true] at hm
  have : admitsV q (i : Int) (r.Values.getD i 0) = true := by
    unfold admitsV
    rw [List.all_eq_true]
    intro c hc
    unfold admC
    by_cases he : c.Field = (i : Int)
    · have := hm.2 c hc
      simp only [condOk, atI, he, Int.toNat_natCast] at this
      rw [this, Bool.or_true]
    · simp [he]
  rw [h] at this; cases this
theorem ext_Span_iff {x y : Span} : x = y ↔ x.From = y.From ∧ x.To = y.To ∧ x.Set = y.Set := by cases x; cases y; simp [Span.mk.injEq]
theorem ext_Annotated_iff {x y : Annotated} : x = y ↔ x.Row = y.Row ∧ x.Set = y.Set := by cases x; cases y; simp [Annotated.mk.injEq]
theorem ext_Routed_iff {x y : Routed} : x = y ↔ x.Id = y.Id ∧ x.Rows = y.Rows := by cases x; cases y; simp_all
end Go.Proofs.Ytaomckpfgmhapaa
