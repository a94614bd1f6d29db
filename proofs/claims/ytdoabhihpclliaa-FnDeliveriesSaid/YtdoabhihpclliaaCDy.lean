/- Definitions and their laws. No condition. -/
import Derived.Test.YtdoabhihpclliaaCDx
set_option linter.unusedVariables false
set_option linter.unusedSimpArgs false
namespace Go.Proofs.Ytdoabhihpclliaa
open Go Go.RowKit M
set_option maxRecDepth 10000
theorem PV.to_eqv {o : Fl} {es es' : List (List PV)} (h : es = es') : (PV.sl o es).To (PV.sl .v es') := by subst h; exact PV.to_none
structure Inv (rows : List Row) (t : Int) (s : Outbox × Client) : Prop where
  rr : s.1.Rows = rows
  a0 : 0 ≤ s.1.Acked
  a1 : s.1.Acked ≤ rows.length
  n0 : s.1.Acked ≤ s.2.Next
  n1 : s.2.Next ≤ s.1.Acked + 1
  n2 : s.2.Next ≤ rows.length
  cr : s.2.Rows = rows.take s.2.Next.toNat
  t0 : s.1.Acked ≤ s.1.Tries
  t1 : s.1.Tries ≤ t
section
variable {rows : List Row} {t : Int} {s : Outbox × Client}
theorem okRows_len (h : okRows rows = true) : (rows.length : Int) ≤ 1000 := by
  unfold okRows at h
  rw [Bool.and_eq_true] at h
  exact of_decide_eq_true h.2
theorem okRows_at (h : okRows rows = true) {r : Row} (hr : r ∈ rows) : okRow r = true := by
  unfold okRows at h
  rw [Bool.and_eq_true] at h
  exact List.all_eq_true.1 h.1 r hr
theorem inv_ok (h : okRows rows = true) (hi : Inv rows t s) (ht : t ≤ 90000) : okBox s.1 = true := by
  have := hi.a0; have := hi.a1; have := hi.t0; have := hi.t1
  unfold okBox
  rw [hi.rr, h, Bool.true_and, Bool.and_eq_true]
  unfold inB
  simp only [Bool.and_eq_true, decide_eq_true_eq]
  omega
theorem inv_one (h : okRows rows = true) (hi : Inv rows t s) (hlt : s.1.Acked < rows.length) : recv s.2 s.1.Acked (rowAt s.1.Rows s.1.Acked) = (⟨s.1.Acked + 1, rows.take (s.1.Acked + 1).toNat⟩, s.1.Acked + 1) := by
  have a0 := hi.a0; have n0 := hi.n0; have n1 := hi.n1; have hl := okRows_len h
  have hk : s.1.Acked.toNat < rows.length := by omega
  have e1 : rowAt s.1.Rows s.1.Acked = rows[s.1.Acked.toNat] := by rw [hi.rr, rowAt_eq a0 hk]
  have e2 : (s.1.Acked + 1).toNat = s.1.Acked.toNat + 1 := by omega
  by_cases hn : s.2.Next = s.1.Acked
  · have hok : recvOk s.2 s.1.Acked (rowAt s.1.Rows s.1.Acked) = true := by
      unfold recvOk
      rw [e1, okRows_at h (List.getElem_mem hk), hn]
      unfold inB
      simp only [Bool.and_eq_true, decide_eq_true_eq, beq_iff_eq, true_and]
      omega
    have e : recv s.2 s.1.Acked (rowAt s.1.Rows s.1.Acked) = (⟨s.2.Next + 1, s.2.Rows ++ [rowAt s.1.Rows s.1.Acked]⟩, s.2.Next + 1) := if_pos hok
    rw [e, hi.cr, hn, e1, e2, List.take_succ_eq_append_getElem hk]
  · have hok : recvOk s.2 s.1.Acked (rowAt s.1.Rows s.1.Acked) = false := by
      unfold recvOk
      rw [Bool.and_eq_false_iff]
      left
      simp only [beq_eq_false_iff_ne]
      omega
    have e : recv s.2 s.1.Acked (rowAt s.1.Rows s.1.Acked) = (s.2, s.2.Next) := if_neg (by rw [hok]; simp)
    have e3 : s.2.Next = s.1.Acked + 1 := by omega
    have hc := hi.cr
    rw [e]
    rw [e3] at hc
    cases hs : s.2 with
    | mk nx rs =>
      rw [hs] at e3 hc
      dsimp only at e3 hc
      rw [e3, hc]
theorem inv_to (h : okRows rows = true) (hi : Inv rows t s) (hlt : s.1.Acked < rows.length) (f : Int) : sendTo s.1 s.2 f = (⟨s.1.Acked + 1, rows.take (s.1.Acked + 1).toNat⟩, s.1.Acked + 1) := by
  have h1 := inv_one h hi hlt
  unfold sendTo
  split
  · rw [h1]
    refine if_neg ?_
    unfold recvOk
    simp only [Bool.and_eq_true, beq_iff_eq]
    intro hh
    have := hh.1
    omega
  · exact h1
theorem inv_step (h : okRows rows = true) (hi : Inv rows t s) (ht : t ≤ 90000) (f : Int) : Inv rows (t + 1) (dstep s f) ∧ (f = 0 → s.1.Acked < rows.length → (dstep s f).1.Acked = s.1.Acked + 1) := by
  have hok := inv_ok h hi ht
  have a0 := hi.a0; have a1 := hi.a1; have n0 := hi.n0; have n1 := hi.n1; have n2 := hi.n2; have t0 := hi.t0; have t1 := hi.t1; have hr := hi.rr
  by_cases hlt : s.1.Acked < rows.length
  · have hs : sendOk s.1 = true := by
      unfold sendOk
      rw [hok, hr]
      simp only [Bool.true_and, Bool.and_eq_true, Bool.not_eq_true', beq_eq_false_iff_ne]
      omega
    have hto := inv_to h hi hlt f
    by_cases f1 : f = 1
    · have e : send s.1 s.2 f = (⟨s.1.Rows, s.1.Acked, s.1.Tries + 1⟩, s.2, true) := by unfold send; rw [if_pos hs, if_pos f1]
      unfold dstep
      rw [e]
      exact ⟨⟨hr, a0, a1, n0, n1, n2, hi.cr, by dsimp only; omega, by dsimp only; omega⟩, fun hf => absurd hf (by omega)⟩
    · have e : send s.1 s.2 f = (⟨s.1.Rows, if f = 2 then s.1.Acked else max s.1.Acked (min (sendTo s.1 s.2 f).2 s.1.Rows.length), s.1.Tries + 1⟩, (sendTo s.1 s.2 f).1, true) := by unfold send; rw [if_pos hs, if_neg f1]
      unfold dstep
      rw [e, hto, hr]
      dsimp only
      by_cases f2 : f = 2
      · rw [if_pos f2]
        exact ⟨⟨rfl, a0, a1, by dsimp only; omega, by dsimp only; omega, by dsimp only; omega, rfl, by dsimp only; omega, by dsimp only; omega⟩, fun hf => absurd hf (by omega)⟩
      · rw [if_neg f2]
        have e4 : max s.1.Acked (min (s.1.Acked + 1) (rows.length : Int)) = s.1.Acked + 1 := by omega
        rw [e4]
        exact ⟨⟨rfl, by dsimp only; omega, by dsimp only; omega, by dsimp only; omega, by dsimp only; omega, by dsimp only; omega, rfl, by dsimp only; omega, by dsimp only; omega⟩, fun _ _ => rfl⟩
  · have hs : sendOk s.1 = false := by
      unfold sendOk
      rw [hok, hr]
      simp only [Bool.true_and, Bool.and_eq_false_iff, Bool.not_eq_false', beq_iff_eq]
      left; omega
    have e : send s.1 s.2 f = (s.1, s.2, false) := by unfold send; rw [if_neg (by rw [hs]; simp)]
    unfold dstep
    rw [e]
    exact ⟨⟨hr, a0, a1, n0, n1, n2, hi.cr, t0, by dsimp only; omega⟩, fun _ hh => absurd hh hlt⟩
theorem inv_run (h : okRows rows = true) (hi : Inv rows t s) {l : List Int} : ∀ k : Nat, k ≤ l.length → t + k ≤ 90000 → Inv rows (t + k) (run1 s l k)
  | 0, _, _ => by simpa [run1] using hi
  | k + 1, hk, ht => by
    have h1 := inv_run h hi (l := l) k (by omega) (by omega)
    rw [run1_succ (by omega)]
    have h2 := (inv_step h h1 (by omega) l[k]).1
    have e : t + ((k + 1 : Nat) : Int) = t + (k : Int) + 1 := by omega
    rw [e]; exact h2
theorem inv_drive (h : okRows rows = true) : ∀ (n : Nat) (t : Int) (s : Outbox × Client), Inv rows t s → (rows.length : Int) - s.1.Acked ≤ n → t + n ≤ 90000 → Inv rows (t + n) (drive n s) ∧ (drive n s).1.Acked = rows.length
  | 0, t, s, hi, hn, _ => by
    have := hi.a1
    exact ⟨by simpa [drive] using hi, by rw [drive]; omega⟩
  | n + 1, t, s, hi, hn, ht => by
    have a1 := hi.a1
    rw [drive]
    split
    · rename_i hlt
      rw [hi.rr] at hlt
      have h1 := inv_step h hi (by omega) 0
      have h2 := h1.2 rfl hlt
      have h3 := inv_drive h n (t + 1) (dstep s 0) h1.1 (by omega) (by omega)
      have e : t + ((n + 1 : Nat) : Int) = t + 1 + (n : Int) := by omega
      rw [e]; exact h3
    · rename_i hlt
      rw [hi.rr] at hlt
      exact ⟨⟨hi.rr, hi.a0, hi.a1, hi.n0, hi.n1, hi.n2, hi.cr, hi.t0, by have := hi.t1; omega⟩, by omega⟩
theorem newBox_ok (h : (newBox rows).2 = true) : okRows rows = true := by
  cases hk : okRows rows with
  | true => rfl
  | false => unfold newBox at h; rw [hk] at h; cases h
theorem newBox_eq (h : okRows rows = true) : (newBox rows).1 = ⟨rows, 0, 0⟩ := by unfold newBox; rw [if_pos h]
theorem resume_new (h : (newBox rows).2 = true) {k : Nat} (hk : k ≤ rows.length) : resume (newBox rows).1 (k : Int) = rows.drop k := by
  have ho := newBox_ok h
  rw [newBox_eq ho]
  have e : (okBox ⟨rows, 0, 0⟩ && inB (k : Int) 0 rows.length) = true := by
    unfold okBox inB
    rw [ho]
    simp only [Bool.true_and, Bool.and_eq_true, decide_eq_true_eq]
    omega
  show (if okBox ⟨rows, 0, 0⟩ && inB (k : Int) 0 rows.length then rows.drop ((k : Int)).toNat else []) = _
  rw [if_pos e]; rfl
theorem deliver_fin {fates : List Int} (h : (newBox rows).2 = true) : (deliverAll rows fates).2.Rows = rows ∧ (deliverAll rows fates).1.Acked = rows.length ∧ (deliverAll rows fates).2.Next = rows.length ∧ (rows.length : Int) ≤ (deliverAll rows fates).1.Tries ∧ okBox (deliverAll rows fates).1 = true := by
  have ho := newBox_ok h
  have hl := okRows_len ho
  have h0 : Inv rows 0 (⟨rows, 0, 0⟩, ⟨0, []⟩) := ⟨rfl, Int.le_refl _, by dsimp only; omega, Int.le_refl _, by dsimp only; omega, by dsimp only; omega, rfl, Int.le_refl _, Int.le_refl _⟩
  have hf : (fates.take 200).length ≤ 200 := by rw [List.length_take]; omega
  have h1 := inv_run ho h0 (l := fates.take 200) _ (Nat.le_refl _) (by omega)
  have h2 := inv_drive ho 2000 _ _ h1 (by have := h1.a0; omega) (by omega)
  have e : deliverAll rows fates = drive 2000 (run1 (⟨rows, 0, 0⟩, ⟨0, []⟩) (fates.take 200) (fates.take 200).length) := by unfold deliverAll; rw [if_pos ho]
  rw [← e] at h2
  have n0 := h2.1.n0; have n2 := h2.1.n2; have t0 := h2.1.t0
  have hn : (deliverAll rows fates).2.Next = rows.length := by omega
  refine ⟨?_, h2.2, hn, by omega, inv_ok ho h2.1 (by omega)⟩
  rw [h2.1.cr, hn]
  exact List.take_of_length_le (by omega)
end

end Go.Proofs.Ytdoabhihpclliaa
