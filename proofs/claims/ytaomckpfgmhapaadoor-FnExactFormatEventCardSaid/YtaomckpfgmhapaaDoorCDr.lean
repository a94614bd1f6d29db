/- Definitions and their laws. No condition. -/
import Derived.Test.YtaomckpfgmhapaaDoorCDn
set_option linter.unusedVariables false
set_option linter.unusedSimpArgs false
namespace Go.Proofs.YtaomckpfgmhapaaDoor
open Go Go.RowKit M
set_option maxRecDepth 10000
def fmtRow (r : Row) : Bytes := if okRow r then itoa r.Id ++ [58] ++ listB r.Values else []
theorem okRow_i64 {r : Row} (h : okRow r = true) : 0 ≤ r.Id ∧ r.Id ≤ 999 ∧ r.Values.length = 3 ∧ ∀ x ∈ r.Values, I64 x := by
  unfold okRow at h
  simp only [Bool.and_eq_true, decide_eq_true_eq, inB] at h
  refine ⟨h.2.1.1, h.2.1.2, by omega, fun x hx => ?_⟩
  have := List.all_eq_true.1 h.1 x hx
  simp [okVal, inB] at this
  unfold I64; omega
theorem fmtRow_len (r : Row) : (fmtRow r).length ≤ 100 := by
  unfold fmtRow
  split
  · rename_i h
    obtain ⟨h1, h2, h3, h4⟩ := okRow_i64 h
    have h5 : (itoa r.Id).length ≤ 21 := itoa_len (by unfold I64; omega)
    have h6 := listB_len h4
    simp only [List.length_append, List.length_cons, List.length_nil]
    omega
  · simp
theorem itoa_ne (n : Int) : itoa n ≠ [] := by
  have hd : ∀ u, Lib.decDigits u ≠ [] := fun u e => by
    have := Lib.nDigits_pos u
    rw [← Lib.decDigits_length, e] at this
    simp at this
  by_cases h : n < 0
  · rw [itoa_neg h]; simp
  · rw [itoa_pos h]; exact hd _
def linesB (ws : List Bytes) : Bytes := if ws = [] then [110, 111, 110, 101] else joinB ws [32]
theorem linesB_nil : linesB [] = [110, 111, 110, 101] := rfl
theorem linesB_cons {ws : List Bytes} (h : ws ≠ []) : linesB ws = joinB ws [32] := if_neg h
theorem join_ne {ws : List Bytes} {sep : Bytes} (h : ws ≠ []) (hw : ∀ x ∈ ws, x ≠ []) : joinB ws sep ≠ [] := by
  cases ws with
  | nil => exact absurd rfl h
  | cons x r =>
    unfold joinB
    rw [Lib.join_cons]
    intro e
    exact hw x (by simp) (List.append_eq_nil_iff.1 e).1
/-- A text that is built word by word. -/
theorem lines_end {ws : List Bytes} (hw : ∀ x ∈ ws, x ≠ []) : (if joinB ws [32] = [] then [110, 111, 110, 101] else joinB ws [32]) = linesB ws := by
  by_cases h : ws = []
  · subst h; rfl
  · rw [if_neg (join_ne h hw), linesB_cons h]
theorem map_take_succ {α β : Type} {l : List α} {f : α → β} {k : Nat} (h : k < l.length) : (l.take (k + 1)).map f = (l.take k).map f ++ [f l[k]] := by
  rw [List.take_succ_eq_append_getElem h, List.map_append]; rfl
theorem map_take_nil {α β : Type} {l : List α} {f : α → β} {k : Nat} (h : k < l.length) (hk : ¬ k = 0) : (l.take k).map f ≠ [] := by
  intro e
  have := congrArg List.length e
  rw [List.length_map, List.length_take] at this
  simp at this
  rcases this with e | e
  · exact hk e
  · rw [e] at h; simp at h
def projR (q : Query) (r : Row) : List Int := if okRow r && okQuery q then q.Out.map fun f => r.Values.getD f.toNat 0 else []
theorem out_at {q : Query} (h : okQuery q = true) : q.Out.length ≤ 3 ∧ ∀ f ∈ q.Out, 0 ≤ f ∧ f ≤ 2 := by
  unfold okQuery okFields at h
  simp only [Bool.and_eq_true] at h
  have h1 := h.2.2.1
  have h2 := h.2.2.2
  refine ⟨by simp [inB] at h2; omega, fun f hf => ?_⟩
  have := List.all_eq_true.1 h1 f hf
  simpa [okOut, inB] using this
theorem proj_end {q : Query} {r : Row} {k : Nat} (h : (k = q.Out.length ∧ (okRow r && okQuery q) = true) ∨ (k = 0 ∧ (q.Out.length = 0 ∨ (okRow r && okQuery q) = false))) : ((q.Out.take k).map fun f => r.Values.getD f.toNat 0) = projR q r := by
  unfold projR
  rcases h with ⟨rfl, h⟩ | ⟨rfl, h⟩
  · rw [if_pos h, List.take_length]
  · split
    · rename_i h2
      rcases h with h | h
      · rw [List.eq_nil_of_length_eq_zero h]; rfl
      · rw [h] at h2; cases h2
    · rfl
theorem projR_i64 (q : Query) (r : Row) : (projR q r).length ≤ 3 ∧ ∀ x ∈ projR q r, I64 x := by
  unfold projR
  split
  · rename_i h
    rw [Bool.and_eq_true] at h
    obtain ⟨h1, h2, h3, h4⟩ := okRow_i64 h.1
    have h5 := out_at h.2
    refine ⟨by rw [List.length_map]; exact h5.1, fun x hx => ?_⟩
    obtain ⟨f, hf, rfl⟩ := List.mem_map.1 hx
    have := h5.2 f hf
    have hlt : f.toNat < r.Values.length := by omega
    rw [List.getD_eq_getElem?_getD, List.getElem?_eq_getElem hlt]
    exact h4 _ (List.getElem_mem hlt)
  · exact ⟨by simp, fun x hx => nomatch hx⟩
def resWord (q : Query) (r : Row) : Bytes := itoa r.Id ++ [58] ++ listB (projR q r)
theorem resWord_ne (q : Query) (r : Row) : resWord q r ≠ [] := by
  unfold resWord
  intro e
  exact itoa_ne r.Id (List.append_eq_nil_iff.1 (List.append_eq_nil_iff.1 e).1).1
theorem resWord_len {q : Query} {r : Row} (h : okRow r = true) : (resWord q r).length ≤ 100 := by
  obtain ⟨h1, h2, h3, h4⟩ := okRow_i64 h
  have h5 : (itoa r.Id).length ≤ 21 := itoa_len (by unfold I64; omega)
  have h6 := projR_i64 q r
  have h7 := listB_len h6.2
  unfold resWord
  simp only [List.length_append, List.length_cons, List.length_nil]
  omega
def resLine (x : Finished) : Bytes := if okQuery x.Query && okRows x.Rows then linesB (x.Rows.map (resWord x.Query)) else []
theorem okRows_at_ {rows : List Row} (h : okRows rows = true) {r : Row} (hr : r ∈ rows) : okRow r = true := by
  unfold okRows at h
  rw [Bool.and_eq_true] at h
  exact List.all_eq_true.1 h.1 r hr
theorem okRows_len_ {rows : List Row} (h : okRows rows = true) : rows.length ≤ 1000 := by
  unfold okRows at h
  rw [Bool.and_eq_true] at h
  have := of_decide_eq_true h.2
  omega
theorem resJ_len {q : Query} {rows : List Row} (h : okRows rows = true) (k : Nat) : (joinB ((rows.take k).map (resWord q)) [32]).length ≤ 101000 := by
  have h1 := join_le (m := 100) (sep := [32]) (xs := (rows.take k).map (resWord q)) (by
    intro x hx
    obtain ⟨r, hr, rfl⟩ := List.mem_map.1 hx
    exact resWord_len (okRows_at_ h (List.mem_of_mem_take hr)))
  have h2 := okRows_len_ h
  rw [List.length_map, List.length_take] at h1
  simp only [List.length_cons, List.length_nil] at h1
  have : min k rows.length * (100 + (0 + 1)) ≤ 1000 * 101 := Nat.mul_le_mul (by omega) (by omega)
  omega

end Go.Proofs.YtaomckpfgmhapaaDoor
