/- Definitions and their laws. No condition. -/
import Derived.Test.YtmekkgdboplbjaaCDz
set_option linter.unusedVariables false
set_option linter.unusedSimpArgs false
namespace Go.Proofs.Ytmekkgdboplbjaa
open Go Go.RowKit M
set_option maxRecDepth 10000
attribute [local irreducible] belowC byteC
theorem adj_snoc {α : Type} {d : α} {p : α → Bool} {r : α → α → Bool} {l : List α} {x : α} (h : adjAll d p r l = true) (hx : p x = true) (hr : ∀ y ∈ l, r y x = true) : adjAll d p r (l ++ [x]) = true := by
 unfold adjAll adjTo at h ⊢
 rw [List.all_eq_true] at h ⊢
 intro i hi
 have hi := List.mem_range.1 hi
 rw [List.length_append] at hi
 have hi : i < l.length + 1 := hi
 by_cases hl : i < l.length
 ·have h1 := adjStep.1 (h i (List.mem_range.2 hl))
  have e : ∀ j, j < l.length → (l ++ [x]).getD j d = l.getD j d := fun j hj => by
   rw [List.getD_eq_getElem?_getD, List.getElem?_append_left hj, List.getD_eq_getElem?_getD]
  refine adjStep.2 ⟨by rw [e i hl]; exact h1.1, ?_⟩
  rcases h1.2 with h2 | h2
  ·exact .inl h2
  ·rcases Nat.eq_zero_or_pos i with h0 | h0
   ·exact .inl h0
   ·right; rw [e i hl, e (i - 1) (by omega)]; exact h2
 ·have hil : i = l.length := by omega
  subst hil
  have e : (l ++ [x]).getD l.length d = x := by simp
  refine adjStep.2 ⟨by rw [e]; exact hx, ?_⟩
  rcases Nat.eq_zero_or_pos l.length with h0 | h0
  ·exact .inl h0
  ·right
   rw [e, List.getD_eq_getElem?_getD, List.getElem?_append_left (by omega), List.getElem?_eq_getElem (show l.length - 1 < l.length by omega)]
   exact hr _ (List.getElem_mem _)
theorem valsC_in {w : Int} {c : Cur} (hw : 0 < w) : ∀ {k : Nat}, ∀ x ∈ (valsC w c k).1, 0 ≤ x ∧ x < w
 | 0, x, h => nomatch h
 | k + 1, x, h => by
  rw [valsC] at h
  rcases List.mem_append.1 h with h | h
  ·exact valsC_in hw x h
  ·simp at h; subst h
   exact ⟨belowC_ge _ _, belowC_lt _ hw⟩
theorem pick_w (c : Cur) : 0 < (pickC c [3, 6, 100]).1 ∧ (pickC c [3, 6, 100]).1 ≤ 100 := by
 have h := pickC_mem c (l := [3, 6, 100]) (by decide)
 simp at h; omega
theorem rowC_ok {c : Cur} {id : Int} (h : 0 ≤ id ∧ id ≤ 999) : okRow (rowC c id).1 = true := by
 have hw := pick_w c
 unfold okRow rowC
 simp only [Bool.and_eq_true, List.all_eq_true, decide_eq_true_eq]
 refine ⟨fun x hx => ?_, inB_iff.2 h, by rw [valsC_len]; rfl⟩
 have := valsC_in hw.1 x hx
 exact inB_iff.2 (by omega)
theorem consTo_ok {w : Int} (hw : 0 < w ∧ w ≤ 100) (c : Cur) : ∀ {k : Nat}, k ≤ 3 → adjAll ⟨0, 0, 0⟩ okCond ltField (consTo w ⟨[], c⟩ k).l = true ∧ ∀ y ∈ (consTo w ⟨[], c⟩ k).l, y.Field < (k : Int)
 | 0, _ => ⟨rfl, fun y h => nomatch h⟩
 | k + 1, hk => by
  have ih := consTo_ok hw c (k := k) (by omega)
  rw [consTo]
  unfold conNext
  split
  ·have h1 : 0 ≤ conLow w (consTo w ⟨[], c⟩ k).c := belowC_ge _ _
   have h2 : conLow w (consTo w ⟨[], c⟩ k).c < w := belowC_lt _ hw.1
   have h3 := belowC_ge (belowC (belowC (consTo w ⟨[], c⟩ k).c 2).2 w).2 w
   have h4 : conLow w (consTo w ⟨[], c⟩ k).c ≤ conMid w (consTo w ⟨[], c⟩ k).c ∧ conMid w (consTo w ⟨[], c⟩ k).c ≤ 99 := by
    show _ ≤ min 99 (_ + _) ∧ min 99 (_ + _) ≤ 99
    omega
   refine ⟨adj_snoc ih.1 ?_ (fun y hy => ?_), fun y hy => ?_⟩
   ·unfold okCond
    generalize conLow w (consTo w ⟨[], c⟩ k).c = lo at h1 h2 h4
    generalize conMid w (consTo w ⟨[], c⟩ k).c = mi at h4
    simp only [Bool.and_eq_true, inB, decide_eq_true_eq]
    split <;> omega
   ·have := ih.2 y hy
    unfold ltField
    simpa using this
   ·rcases List.mem_append.1 hy with hy | hy
    ·have := ih.2 y hy; omega
    ·simp at hy; subst hy; dsimp only; omega
  ·exact ⟨ih.1, fun y hy => by have := ih.2 y hy; omega⟩
theorem queC_ok {c : Cur} {id : Int} (h : 0 ≤ id ∧ id ≤ 23) : okQuery (queC c id).1 = true := by
 have hw := pick_w (belowC c 4).2
 have hc := consTo_ok hw (queW c).2 (k := 3) (by omega)
 have hl := consTo_len (w := (queW c).1) (s := ⟨[], (queW c).2⟩) 3
 have hn := queN_le c
 have h1 := belowC_ge c 4
 have h2 := belowC_lt c (n := 4) (by decide)
 have hv : (queO c).1.length = (1 + (queN c).1).toNat := valsC_len
 unfold okQuery okConds okFields queC
 simp only [Bool.and_eq_true, List.all_eq_true, decide_eq_true_eq]
 refine ⟨⟨inB_iff.2 h, inB_iff.2 (by omega), ?_⟩, hc.1, fun x hx => ?_, ?_⟩
 ·have : (queS c).l.length ≤ 0 + 3 := hl
  omega
 ·have := valsC_in (w := 3) (by decide) x hx
  exact inB_iff.2 (by omega)
 ·rw [hv]; exact inB_iff.2 (by omega)
end Go.Proofs.Ytmekkgdboplbjaa
