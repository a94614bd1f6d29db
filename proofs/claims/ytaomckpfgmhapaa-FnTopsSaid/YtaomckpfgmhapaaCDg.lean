/- Definitions and their laws. No condition. -/
import Derived.Test.YtaomckpfgmhapaaCDf
set_option linter.unusedVariables false
set_option linter.unusedSimpArgs false
namespace Go.Proofs.Ytaomckpfgmhapaa
open Go Go.RowKit M
set_option maxRecDepth 10000
def topRows (S : List Annotated) (c : Nat) (id : Int) (n : Nat) : List Row := (((S.take n).filter fun a => hasI a.Set id).take c).map fun a => a.Row
def topAt (S : List Annotated) (c : Nat) (ids : List Int) (n : Nat) : List Routed := ids.map fun id => ⟨id, topRows S c id n⟩
def topMid (S : List Annotated) (c : Nat) (ids : List Int) (n i : Nat) : List Routed := topAt S c (ids.take i) (n + 1) ++ topAt S c (ids.drop i) n
def topFull (S : List Annotated) (c : Nat) (ids : List Int) (n : Nat) : Bool := ids.all fun id => decide (c ≤ (topRows S c id n).length)
def openN (S : List Annotated) (c : Nat) (ids : List Int) (n : Nat) : Nat := (ids.filter fun id => decide ((topRows S c id n).length < c)).length
def stopN (P : Nat → Bool) : Nat → Nat → Nat
  | 0, n => n
  | d + 1, n => if P n then n else stopN P d (n + 1)
def topN (S : List Annotated) (c : Nat) (ids : List Int) : Nat := stopN (topFull S c ids) (S.length - 0) 0
def topShared (l : List Annotated) (ids : List Int) (f c : Int) : List Routed × Int := if annOk l f && (okSet ids && inB c 1 100) then (topAt (sortF l f) c.toNat ids (topN (sortF l f) c.toNat ids), (topN (sortF l f) c.toNat ids : Nat)) else ([], 0)
section
variable {S : List Annotated} {c n i : Nat} {ids : List Int} {id : Int} {P : Nat → Bool} {d len : Nat}
theorem stopN_yes (h : P n = true) : stopN P d n = n := by
  cases d with
  | zero => rfl
  | succ d => rw [stopN, if_pos h]
theorem stopN_go (hn : n < len) (h : P n = false) : stopN P (len - (n + 1)) (n + 1) = stopN P (len - n) n := by
  rw [show len - n = (len - (n + 1)) + 1 by omega, stopN, if_neg (by rw [h]; simp)]
theorem stopN_end (h : n = len) : stopN P (len - n) n = n := by rw [h, Nat.sub_self]; rfl
theorem topRows_zero : topRows S c id 0 = [] := by unfold topRows; simp
theorem topRows_le : (topRows S c id n).length ≤ c := by
  unfold topRows
  rw [List.length_map, List.length_take]; omega
theorem topRows_len : (topRows S c id n).length = min c ((S.take n).filter fun a => hasI a.Set id).length := by
  unfold topRows
  rw [List.length_map, List.length_take]
theorem topRows_yes (hn : n < S.length) (h : hasI S[n].Set id = true) (hc : (topRows S c id n).length < c) : topRows S c id (n + 1) = topRows S c id n ++ [S[n].Row] := by
  rw [topRows_len] at hc
  unfold topRows
  rw [List.take_succ_eq_append_getElem hn, List.filter_append]
  generalize hX : (S.take n).filter (fun a => hasI a.Set id) = X at *
  have e : [S[n]].filter (fun a => hasI a.Set id) = [S[n]] := by rw [List.filter_cons, if_pos h]; rfl
  rw [e, List.take_of_length_le (by rw [List.length_append, List.length_singleton]; omega), List.take_of_length_le (by omega), List.map_append]; rfl
theorem topRows_no (hn : n < S.length) (h : hasI S[n].Set id = false ∨ ¬ (topRows S c id n).length < c) : topRows S c id (n + 1) = topRows S c id n := by
  by_cases hh : hasI S[n].Set id = true
  · rcases h with h | h
    · rw [h] at hh; cases hh
    · rw [topRows_len] at h
      unfold topRows
      rw [List.take_succ_eq_append_getElem hn, List.filter_append, List.take_append_of_le_length (by omega)]
  · unfold topRows
    rw [List.take_succ_eq_append_getElem hn, List.filter_append, List.filter_cons, if_neg hh, List.filter_nil, List.append_nil]
theorem topAt_len : (topAt S c ids n).length = ids.length := List.length_map _
theorem topAt_snoc (h : i < ids.length) : topAt S c (ids.take (i + 1)) 0 = topAt S c (ids.take i) 0 ++ [⟨ids[i], []⟩] := by
  unfold topAt
  rw [List.take_succ_eq_append_getElem h, List.map_append, List.map_singleton, topRows_zero]
theorem topMid_zero : topMid S c ids n 0 = topAt S c ids n := rfl
theorem topMid_end (h : i = ids.length) : topMid S c ids n i = topAt S c ids (n + 1) := by
  unfold topMid
  rw [h, List.take_length, List.drop_length]; simp [topAt]
theorem topMid_len : (topMid S c ids n i).length = ids.length := by
  unfold topMid
  rw [List.length_append, topAt_len, topAt_len, ← List.length_append, List.take_append_drop]
theorem topMid_split (h : i < ids.length) : topMid S c ids n i = topAt S c (ids.take i) (n + 1) ++ ⟨ids[i], topRows S c ids[i] n⟩ :: topAt S c (ids.drop (i + 1)) n := by
  unfold topMid
  rw [List.drop_eq_getElem_cons h]; rfl
theorem topMid_next (h : i < ids.length) : topMid S c ids n (i + 1) = topAt S c (ids.take i) (n + 1) ++ ⟨ids[i], topRows S c ids[i] (n + 1)⟩ :: topAt S c (ids.drop (i + 1)) n := by
  unfold topMid
  rw [List.take_succ_eq_append_getElem h]
  show List.map _ (ids.take i ++ [ids[i]]) ++ _ = _
  rw [List.map_append, List.append_assoc]; rfl
theorem topAt_tlen (h : i < ids.length) : (topAt S c (ids.take i) n).length = i := by rw [topAt_len, List.length_take]; omega
theorem topMid_at (h : i < ids.length) {h2 : i < (topMid S c ids n i).length} : (topMid S c ids n i)[i] = ⟨ids[i], topRows S c ids[i] n⟩ := by
  have e : (topMid S c ids n i)[i]? = some ⟨ids[i], topRows S c ids[i] n⟩ := by
    rw [topMid_split h, List.getElem?_append_right (by rw [topAt_tlen h]; exact Nat.le_refl _), topAt_tlen h, Nat.sub_self]; rfl
  exact (List.getElem?_eq_some_iff.1 e).2
theorem topMid_set (h : i < ids.length) : (topMid S c ids n i).set i ⟨ids[i], topRows S c ids[i] (n + 1)⟩ = topMid S c ids n (i + 1) := by
  rw [topMid_split h, topMid_next h, List.set_append_right _ _ (by rw [topAt_tlen h]; exact Nat.le_refl _), topAt_tlen h, Nat.sub_self]; rfl
theorem topMid_same (h : i < ids.length) (hr : topRows S c ids[i] (n + 1) = topRows S c ids[i] n) : topMid S c ids n i = topMid S c ids n (i + 1) := by
  rw [topMid_split h, topMid_next h, hr]
theorem topFull_of {k : Int} (hk : 1 ≤ k) : (topAt S k.toNat ids n).all (fun r => decide (k ≤ (r.Rows.length : Int))) = topFull S k.toNat ids n := by
  unfold topAt topFull
  rw [List.all_map]
  congr 1
  funext id
  simp only [Function.comp, decide_eq_decide]
  omega
theorem openN_zero (hc : 1 ≤ c) : openN S c ids 0 = ids.length := by
  unfold openN
  rw [List.filter_eq_self.2 fun id _ => by rw [topRows_zero]; simp; omega]
theorem openN_nil : openN S c (ids.take 0) n = 0 := rfl
theorem openN_all (h : i = ids.length) : openN S c (ids.take i) n = openN S c ids n := by rw [h, List.take_length]
theorem openN_yes (h : i < ids.length) (hr : (topRows S c ids[i] n).length < c) : openN S c (ids.take (i + 1)) n = openN S c (ids.take i) n + 1 := by
  unfold openN
  rw [List.take_succ_eq_append_getElem h, List.filter_append, List.length_append, List.filter_cons, if_pos (decide_eq_true hr)]; rfl
theorem openN_no (h : i < ids.length) (hr : ¬ (topRows S c ids[i] n).length < c) : openN S c (ids.take (i + 1)) n = openN S c (ids.take i) n := by
  unfold openN
  rw [List.take_succ_eq_append_getElem h, List.filter_append, List.length_append, List.filter_cons, if_neg (by simpa using hr)]; rfl
theorem openN_le : openN S c ids n ≤ ids.length := List.length_filter_le _ _
theorem full_of_open (h : openN S c ids n = 0) : topFull S c ids n = true := by
  unfold openN at h
  have h1 := List.filter_eq_nil_iff.1 (List.length_eq_zero_iff.1 h)
  exact List.all_eq_true.2 fun id hid => decide_eq_true (by have := h1 id hid; simp at this; omega)
theorem open_of_full (h : 0 < openN S c ids n) : topFull S c ids n = false := by
  cases hf : topFull S c ids n with
  | false => rfl
  | true =>
    have h1 := List.all_eq_true.1 hf
    unfold openN at h
    rw [List.filter_eq_nil_iff.2 (fun id hid => by have := of_decide_eq_true (h1 id hid); simp; omega)] at h
    simp at h
theorem topRows_mem {r : Row} (h : r ∈ topRows S c id n) : ∃ a ∈ S, a.Row = r := by
  unfold topRows at h
  obtain ⟨a, ha, e⟩ := List.mem_map.1 h
  exact ⟨a, List.mem_of_mem_take (List.mem_filter.1 (List.mem_of_mem_take ha)).1, e⟩
theorem topShared_ok {l : List Annotated} {f k : Int} (h1 : annOk l f = true) (h2 : okSet ids = true) (h3 : inB k 1 100 = true) : topShared l ids f k = (topAt (sortF l f) k.toNat ids (topN (sortF l f) k.toNat ids), ((topN (sortF l f) k.toNat ids : Nat) : Int)) := if_pos (by rw [h1, h2, h3]; rfl)
theorem topShared_no {l : List Annotated} {f k : Int} (h : ¬ (annOk l f = true ∧ okSet ids = true ∧ inB k 1 100 = true)) : topShared l ids f k = ([], 0) := if_neg (by simpa using h)
end
theorem sum_sub : ∀ {l1 l2 : List Nat}, l1.Sublist l2 → l1.sum ≤ l2.sum
  | _, _, .slnil => Nat.le_refl _
  | _, _, .cons a h => by have := sum_sub h; rw [List.sum_cons]; omega
  | _, _, .cons_cons a h => by have := sum_sub h; rw [List.sum_cons, List.sum_cons]; omega
theorem topRows_wt (S : List Annotated) (c : Nat) (id : Int) (n : Nat) : wtRowS (topRows S c id n) ≤ wtAnnotatedS S := by
  have h1 : (((S.take n).filter fun a => hasI a.Set id).take c).Sublist S := ((List.take_sublist _ _).trans List.filter_sublist).trans (List.take_sublist _ _)
  have h2 := sum_sub (h1.map wtAnnotated)
  have h3 := h1.length_le
  unfold wtRowS wtAnnotatedS topRows
  rw [List.length_map, List.map_map]
  have h4 : ∀ l : List Annotated, (l.map (wtRow ∘ fun a => a.Row)).sum ≤ (l.map wtAnnotated).sum := fun l => by
    induction l with
    | nil => exact Nat.le_refl _
    | cons a l ih =>
      have : wtRow a.Row ≤ wtAnnotated a := by unfold wtAnnotated; omega
      simp only [List.map_cons, List.sum_cons, Function.comp]
      have ih' : (l.map (wtRow ∘ fun a => a.Row)).sum ≤ (l.map wtAnnotated).sum := ih
      omega
  have h5 := h4 (((S.take n).filter fun a => hasI a.Set id).take c)
  omega
theorem okSet_at2 {l : List Int} (h : okSet l = true) {i : Nat} (hi : i < l.length) : (i : Int) ≤ l[i] ∧ l[i] ≤ 23 := by
  have hk : ∀ j, (hj : j < l.length) → 0 ≤ l[j] ∧ l[j] ≤ 23 ∧ (j = 0 ∨ l.getD (j - 1) 0 < l[j]) := fun j hj => by
    have := okStep.1 (List.all_eq_true.1 h j (List.mem_range.2 hj))
    rwa [List.getD_eq_getElem?_getD, List.getElem?_eq_getElem hj] at this
  induction i with
  | zero => exact ⟨(hk 0 hi).1, (hk 0 hi).2.1⟩
  | succ m ih =>
    have h1 := ih (by omega)
    have h2 := hk (m + 1) hi
    rw [Nat.add_sub_cancel, List.getD_eq_getElem?_getD, List.getElem?_eq_getElem (by omega : m < l.length)] at h2
    simp only [Option.getD_some] at h2
    omega
theorem okSet_len2 {l : List Int} (h : okSet l = true) : l.length ≤ 24 := by
  by_cases k : l.length ≤ 24
  · exact k
  · have := okSet_at2 h (i := 24) (by omega); omega
theorem topShared_wt (l : List Annotated) (ids : List Int) (f k : Int) : wtRoutedS (topShared l ids f k).1 ≤ 24 * (wtAnnotatedS l + 1) := by
  unfold topShared
  split
  · rename_i h
    simp only [Bool.and_eq_true] at h
    have hl := okSet_len2 h.2.1
    have h1 : ∀ js : List Int, ((topAt (sortF l f) k.toNat js (topN (sortF l f) k.toNat ids)).map wtRouted).sum ≤ js.length * wtAnnotatedS l := fun js => by
      induction js with
      | nil => exact Nat.zero_le _
      | cons j js ih =>
        have h2 := Nat.le_trans (topRows_wt (sortF l f) k.toNat j (topN (sortF l f) k.toNat ids)) (sortF_wt l f)
        have ih' := ih
        unfold topAt at ih' ⊢
        rw [List.map_cons, List.map_cons, List.sum_cons, List.length_cons, Nat.succ_mul]
        have e : wtRouted ⟨j, topRows (sortF l f) k.toNat j (topN (sortF l f) k.toNat ids)⟩ = wtInt j + wtRowS (topRows (sortF l f) k.toNat j (topN (sortF l f) k.toNat ids)) := rfl
        rw [e]
        simp only [wtInt]
        omega
    have h3 := h1 ids
    have h4 : ids.length * wtAnnotatedS l ≤ 24 * wtAnnotatedS l := Nat.mul_le_mul_right _ hl
    unfold wtRoutedS
    rw [topAt_len]
    dsimp only at h3 ⊢
    omega
  · exact Nat.zero_le _

end Go.Proofs.Ytaomckpfgmhapaa
