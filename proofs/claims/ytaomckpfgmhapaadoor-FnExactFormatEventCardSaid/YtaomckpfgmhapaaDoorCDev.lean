/- Definitions and their laws. No condition. -/
import Derived.Test.YtaomckpfgmhapaaDoorCDr
set_option linter.unusedVariables false
set_option linter.unusedSimpArgs false
namespace Go.Proofs.YtaomckpfgmhapaaDoor
open Go Go.RowKit M
set_option maxRecDepth 10000
def condW (c : Cond) : List Bytes := [[102] ++ itoa c.Field, itoa c.Low ++ [46, 46] ++ itoa c.High]
def qWords (q : Query) (k : Nat) : List Bytes := [[113] ++ itoa q.Id, [116] ++ itoa q.Tenant] ++ (q.Conds.take k).flatMap condW
theorem qWords_succ {q : Query} {k : Nat} (h : k < q.Conds.length) : qWords q (k + 1) = qWords q k ++ condW q.Conds[k] := by
  unfold qWords; rw [fm_succ h, List.append_assoc]
theorem qWords_ne {q : Query} {k : Nat} : qWords q k ≠ [] := by simp [qWords]
def fmtQuery (q : Query) : Bytes := if okQuery q then joinB (qWords q q.Conds.length ++ [[111, 117, 116], listB q.Out]) [32] else []
theorem query_i64 {q : Query} (h : okQuery q = true) : 0 ≤ q.Id ∧ q.Id ≤ 23 ∧ 0 ≤ q.Tenant ∧ q.Tenant ≤ 3 ∧ q.Conds.length ≤ 3 ∧ q.Out.length ≤ 3 ∧ (∀ x ∈ q.Out, I64 x) ∧ ∀ k, (hk : k < q.Conds.length) → 0 ≤ q.Conds[k].Field ∧ q.Conds[k].Field ≤ 2 ∧ 0 ≤ q.Conds[k].Low ∧ q.Conds[k].Low ≤ 99 ∧ 0 ≤ q.Conds[k].High ∧ q.Conds[k].High ≤ 99 := by
  have ho := out_at h
  have h' := h
  unfold okQuery okConds at h'
  simp only [Bool.and_eq_true, inB, decide_eq_true_eq] at h'
  refine ⟨by omega, by omega, by omega, by omega, by omega, ho.1, fun x hx => by have := ho.2 x hx; unfold I64; omega, fun k hk => ?_⟩
  have := List.all_eq_true.1 h'.2.1 k (List.mem_range.2 hk)
  rw [Bool.and_eq_true, getD_at hk] at this
  have := this.1
  simp [okCond, inB] at this
  omega
theorem qWords_len {q : Query} (k : Nat) : (qWords q k).length = 2 + 2 * (q.Conds.take k).length := by
  unfold qWords
  rw [List.length_append]
  have : ∀ l : List Cond, (l.flatMap condW).length = 2 * l.length := by
    intro l
    induction l with
    | nil => rfl
    | cons c l ih => rw [List.flatMap_cons, List.length_append, ih]; simp [condW]; omega
  rw [this]; rfl
theorem qWords_le {q : Query} (h : okQuery q = true) (k : Nat) : ∀ x ∈ qWords q k, x.length ≤ 66 := by
  obtain ⟨a1, a2, a3, a4, a5, a6, a7, a8⟩ := query_i64 h
  have h1 : (itoa q.Id).length ≤ 21 := itoa_len (by unfold I64; omega)
  have h2 : (itoa q.Tenant).length ≤ 21 := itoa_len (by unfold I64; omega)
  intro x hx
  unfold qWords at hx
  rcases List.mem_append.1 hx with hx | hx
  · simp only [List.mem_cons, List.not_mem_nil, or_false] at hx
    rcases hx with rfl | rfl <;> simp only [List.length_append, List.length_cons, List.length_nil] <;> omega
  · obtain ⟨c, hc, hx⟩ := List.mem_flatMap.1 hx
    obtain ⟨j, hj, rfl⟩ := List.mem_iff_getElem.1 (List.mem_of_mem_take hc)
    have h3 := a8 j hj
    have h4 : (itoa q.Conds[j].Field).length ≤ 21 := itoa_len (by unfold I64; omega)
    have h5 : (itoa q.Conds[j].Low).length ≤ 21 := itoa_len (by unfold I64; omega)
    have h6 : (itoa q.Conds[j].High).length ≤ 21 := itoa_len (by unfold I64; omega)
    simp only [condW, List.mem_cons, List.not_mem_nil, or_false] at hx
    rcases hx with rfl | rfl <;> simp only [List.length_append, List.length_cons, List.length_nil] <;> omega
theorem qJ_len {q : Query} (h : okQuery q = true) (k : Nat) : (joinB (qWords q k) [32]).length ≤ 600 := by
  have h1 := join_le (m := 66) (sep := [32]) (qWords_le h k)
  have h2 := (query_i64 h).2.2.2.2.1
  have h3 := qWords_len (q := q) k
  rw [List.length_take] at h3
  rw [h3] at h1
  simp only [List.length_cons, List.length_nil] at h1
  have : (2 + 2 * min k q.Conds.length) * (66 + (0 + 1)) ≤ 8 * 67 := Nat.mul_le_mul (by omega) (by omega)
  omega
theorem fmtQ_eq {q : Query} (k : Nat) : joinB (qWords q k ++ [[111, 117, 116], listB q.Out]) [32] = joinB (qWords q k) [32] ++ [32, 111, 117, 116, 32] ++ listB q.Out := by
  rw [join_two qWords_ne]; simp [List.append_assoc]
theorem fmtQuery_len (q : Query) : (fmtQuery q).length ≤ 800 := by
  unfold fmtQuery
  split
  · rename_i h
    have h1 := qJ_len h q.Conds.length
    obtain ⟨a1, a2, a3, a4, a5, a6, a7, a8⟩ := query_i64 h
    have h2 := listB_len a7
    rw [fmtQ_eq]
    simp only [List.length_append, List.length_cons, List.length_nil]
    omega
  · simp
def fmtUpdate (u : Update) : Bytes :=
  if okUpdate u then
    if u.Kind = 1 then [105, 110, 115, 101, 114, 116, 32] ++ fmtRow u.Row
    else if u.Kind = 2 then [100, 101, 108, 101, 116, 101, 32] ++ itoa u.Row.Id
    else [115, 101, 116, 32] ++ itoa u.Row.Id ++ [32, 102] ++ itoa u.Field ++ [32] ++ itoa u.Value
  else []
theorem upd_i64 {u : Update} (h : okUpdate u = true) : 0 ≤ u.Row.Id ∧ u.Row.Id ≤ 999 ∧ 0 ≤ u.Field ∧ u.Field ≤ 99 ∧ 0 ≤ u.Value ∧ u.Value ≤ 99 := by
  unfold okUpdate at h
  split at h
  · simp [okRow, inB] at h; omega
  · split at h
    · simp [bareRow, inB] at h; omega
    · split at h
      · simp [bareRow, inB] at h; omega
      · cases h
theorem fmtUpdate_len (u : Update) : (fmtUpdate u).length ≤ 200 := by
  unfold fmtUpdate
  split
  · rename_i h
    have h1 := upd_i64 h
    have h2 := fmtRow_len u.Row
    have h3 : (itoa u.Row.Id).length ≤ 21 := itoa_len (by unfold I64; omega)
    have h4 : (itoa u.Field).length ≤ 21 := itoa_len (by unfold I64; omega)
    have h5 : (itoa u.Value).length ≤ 21 := itoa_len (by unfold I64; omega)
    split
    · simp only [List.length_append, List.length_cons, List.length_nil]; omega
    · split <;> simp only [List.length_append, List.length_cons, List.length_nil] <;> omega
  · simp
def fmtEvent (x : Event) : Bytes :=
  if okEvent x then
    if x.Kind = 1 then [97, 100, 109, 105, 116, 32] ++ itoa x.Limit ++ [32] ++ fmtQuery x.Query
    else if x.Kind = 2 then [99, 97, 110, 99, 101, 108, 32] ++ itoa x.Id
    else if x.Kind = 3 then fmtUpdate x.Update
    else [115, 116, 101, 112, 32] ++ itoa x.Steps
  else []
theorem evt_i64 {x : Event} (h : okEvent x = true) : 0 ≤ x.Limit ∧ x.Limit ≤ 32 ∧ 0 ≤ x.Id ∧ x.Id ≤ 23 ∧ 0 ≤ x.Steps ∧ x.Steps ≤ 100 := by
  unfold okEvent at h
  split at h
  · simp [inB] at h; omega
  · split at h
    · simp [inB] at h; omega
    · split at h
      · simp [inB] at h; omega
      · split at h
        · simp [inB] at h; omega
        · cases h

end Go.Proofs.YtaomckpfgmhapaaDoor
