/- Definitions and their laws. No condition. -/
import Derived.Test.YtdoabhihpclliaaCDw
set_option linter.unusedVariables false
set_option linter.unusedSimpArgs false
namespace Go.Proofs.Ytdoabhihpclliaa
open Go Go.RowKit M
set_option maxRecDepth 10000
structure PairS where
  o : Outbox
  x : Client
  c : Cur
def pairTo (o : Outbox) (x : Client) (c : Cur) : Nat → PairS
  | 0 => ⟨o, x, c⟩
  | k + 1 => ⟨(send (pairTo o x c k).o (pairTo o x c k).x (belowC (pairTo o x c k).c 4).1).1, (send (pairTo o x c k).o (pairTo o x c k).x (belowC (pairTo o x c k).c 4).1).2.1, (belowC (pairTo o x c k).c 4).2⟩
def pairR (c : Cur) : PairS := pairTo (newBox (rowsC c 5).1).1 ⟨0, []⟩ (belowC (rowsC c 5).2 6).2 (belowC (rowsC c 5).2 6).1.toNat
def pairB (c : Cur) : Int × Cur := belowC (pairR c).c 12
def pairC (c : Cur) : (Outbox × Client) × Cur :=
  if (pairB c).1 = 0 then ((⟨(pairR c).o.Rows, (belowC (pairB c).2 7).1 - 1, (pairR c).o.Tries⟩, (pairR c).x), (belowC (pairB c).2 7).2)
  else if (pairB c).1 = 1 then (((pairR c).o, ⟨(belowC (pairB c).2 6).1, (pairR c).x.Rows⟩), (belowC (pairB c).2 6).2)
  else if (pairB c).1 = 2 then ((⟨(pairR c).o.Rows, (pairR c).o.Acked, (pickC (pairB c).2 [-1, 100000, 100001]).1⟩, (pairR c).x), (pickC (pairB c).2 [-1, 100000, 100001]).2)
  else (((pairR c).o, (pairR c).x), (pairB c).2)
section
variable {c : Cur} {k : Nat}
theorem pairC_0 (h : (pairB c).1 = 0) : pairC c = ((⟨(pairR c).o.Rows, (belowC (pairB c).2 7).1 - 1, (pairR c).o.Tries⟩, (pairR c).x), (belowC (pairB c).2 7).2) := if_pos h
theorem pairC_1 (h0 : ¬ (pairB c).1 = 0) (h : (pairB c).1 = 1) : pairC c = (((pairR c).o, ⟨(belowC (pairB c).2 6).1, (pairR c).x.Rows⟩), (belowC (pairB c).2 6).2) := by unfold pairC; rw [if_neg h0, if_pos h]
theorem pairC_2 (h0 : ¬ (pairB c).1 = 0) (h1 : ¬ (pairB c).1 = 1) (h : (pairB c).1 = 2) : pairC c = ((⟨(pairR c).o.Rows, (pairR c).o.Acked, (pickC (pairB c).2 [-1, 100000, 100001]).1⟩, (pairR c).x), (pickC (pairB c).2 [-1, 100000, 100001]).2) := by unfold pairC; rw [if_neg h0, if_neg h1, if_pos h]
theorem pairC_3 (h0 : ¬ (pairB c).1 = 0) (h1 : ¬ (pairB c).1 = 1) (h : ¬ (pairB c).1 = 2) : pairC c = (((pairR c).o, (pairR c).x), (pairB c).2) := by unfold pairC; rw [if_neg h0, if_neg h1, if_neg h]
theorem recv_next (c : Client) (n : Int) (r : Row) : c.Next ≤ (recv c n r).1.Next ∧ (recv c n r).1.Next ≤ c.Next + 1 := by
  unfold recv
  split
  · dsimp only; omega
  · dsimp only; omega
theorem recv_len (c : Client) (n : Int) (r : Row) : ((recv c n r).1.Rows.length : Int) - c.Rows.length = (recv c n r).1.Next - c.Next := by
  unfold recv
  split
  · simp only [List.length_append, List.length_singleton]; omega
  · dsimp only; omega
theorem recv_snd (c : Client) (n : Int) (r : Row) : (recv c n r).2 = (recv c n r).1.Next := by
  unfold recv
  split <;> rfl
theorem recv_two (c : Client) (n : Int) (r q : Row) : (recv c n r).1.Next = c.Next ∨ recv (recv c n r).1 n q = ((recv c n r).1, (recv c n r).1.Next) := by
  by_cases h : recvOk c n r = true
  · right
    have e : recv c n r = (⟨c.Next + 1, c.Rows ++ [r]⟩, c.Next + 1) := if_pos h
    have hn : n = c.Next := by
      unfold recvOk at h
      simp only [Bool.and_eq_true, beq_iff_eq] at h
      exact h.1
    rw [e]
    refine if_neg ?_
    unfold recvOk
    simp only [Bool.and_eq_true, beq_iff_eq]
    intro hh
    have := hh.1
    omega
  · left
    have e : recv c n r = (c, c.Next) := if_neg h
    rw [e]
theorem recv_again (c : Client) (n : Int) (r : Row) : (recv c n r).1.Next = c.Next ∨ (recv (recv c n r).1 n r).1.Next = (recv c n r).1.Next := (recv_two c n r r).imp id fun h => by rw [h]
theorem sendTo_next (o : Outbox) (c : Client) (f : Int) : c.Next ≤ (sendTo o c f).1.Next ∧ (sendTo o c f).1.Next ≤ c.Next + 1 := by
  have h1 := recv_next c o.Acked (rowAt o.Rows o.Acked)
  unfold sendTo
  split
  · rcases recv_two c o.Acked (rowAt o.Rows o.Acked) (rowAt o.Rows o.Acked) with h | h
    · have h2 := recv_next (recv c o.Acked (rowAt o.Rows o.Acked)).1 o.Acked (rowAt o.Rows o.Acked)
      omega
    · rw [h]; exact h1
  · exact h1
theorem send_next (o : Outbox) (c : Client) (f : Int) : c.Next ≤ (send o c f).2.1.Next ∧ (send o c f).2.1.Next ≤ c.Next + 1 := by
  have h := sendTo_next o c f
  unfold send
  split
  · split
    · dsimp only; omega
    · exact h
  · dsimp only; omega
theorem send_acked (o : Outbox) (c : Client) (f : Int) : o.Acked ≤ (send o c f).1.Acked := by
  unfold send
  split
  · split
    · exact Int.le_refl _
    · dsimp only
      split
      · exact Int.le_refl _
      · omega
  · exact Int.le_refl _
theorem pairTo_wt {o : Outbox} {x : Client} (ho : wtOutbox o ≤ 20) : wtOutbox (pairTo o x c k).o ≤ 20 ∧ wtClient (pairTo o x c k).x ≤ wtClient x + 42 * k := by
  induction k with
  | zero => exact ⟨ho, Nat.le_refl _⟩
  | succ k ih =>
    rw [pairTo]
    have h1 := send_wt1 (pairTo o x c k).o (pairTo o x c k).x (belowC (pairTo o x c k).c 4).1
    have h2 := send_wt2 (pairTo o x c k).o (pairTo o x c k).x (belowC (pairTo o x c k).c 4).1
    dsimp only; omega
theorem pairTo_next {o : Outbox} {x : Client} : x.Next ≤ (pairTo o x c k).x.Next ∧ (pairTo o x c k).x.Next ≤ x.Next + k := by
  induction k with
  | zero => rw [pairTo]; dsimp only; omega
  | succ k ih =>
    rw [pairTo]
    have h1 := send_next (pairTo o x c k).o (pairTo o x c k).x (belowC (pairTo o x c k).c 4).1
    dsimp only; omega
theorem pairR_wt (c : Cur) : wtOutbox (pairR c).o ≤ 20 ∧ wtClient (pairR c).x ≤ 210 ∧ 0 ≤ (pairR c).x.Next ∧ (pairR c).x.Next ≤ 5 := by
  have h1 := rowsC_wt c (most := 5) (by decide)
  have h2 := newBox_wt (rowsC c 5).1
  have h3 := belowC_ge (rowsC c 5).2 6
  have h4 := belowC_lt (rowsC c 5).2 (n := 6) (by decide)
  have h5 := pairTo_wt (o := (newBox (rowsC c 5).1).1) (x := ⟨0, []⟩) (c := (belowC (rowsC c 5).2 6).2) (k := (belowC (rowsC c 5).2 6).1.toNat) (by omega)
  have h6 := pairTo_next (o := (newBox (rowsC c 5).1).1) (x := ⟨0, []⟩) (c := (belowC (rowsC c 5).2 6).2) (k := (belowC (rowsC c 5).2 6).1.toNat)
  have h7 : wtClient ⟨0, []⟩ = 0 := by simp [wtClient, wtRowS, wtInt]
  rw [h7] at h5
  unfold pairR
  dsimp only at h6
  omega
theorem pairC_wt (c : Cur) : wtOutbox (pairC c).1.1 ≤ 20 ∧ wtClient (pairC c).1.2 ≤ 210 ∧ 0 ≤ (pairC c).1.2.Next ∧ (pairC c).1.2.Next ≤ 6 := by
  have h := pairR_wt c
  have h3 := belowC_ge (pairB c).2 6
  have h4 := belowC_lt (pairB c).2 (n := 6) (by decide)
  unfold wtOutbox wtClient at h ⊢
  simp only [wtInt] at h ⊢
  by_cases k0 : (pairB c).1 = 0
  · rw [pairC_0 k0]; dsimp only; omega
  · by_cases k1 : (pairB c).1 = 1
    · rw [pairC_1 k0 k1]; dsimp only; omega
    · by_cases k2 : (pairB c).1 = 2
      · rw [pairC_2 k0 k1 k2]; dsimp only; omega
      · rw [pairC_3 k0 k1 k2]; dsimp only; omega
end
theorem wtClient_len (c : Client) : c.Rows.length ≤ wtClient c := by
  unfold wtClient wtRowS; omega
def drReceive (code : List Int) (hb : code.length ≤ 9223372036854775807) : Client × Int × Row := ((pairC (curNew code hb)).1.2, (pairC (curNew code hb)).1.2.Next + (belowC (pairC (curNew code hb)).2 3).1 - 1, (anyC (belowC (pairC (curNew code hb)).2 3).2).1)
def drSend (code : List Int) (hb : code.length ≤ 9223372036854775807) : Outbox × Client × Int := ((pairC (curNew code hb)).1.1, (pairC (curNew code hb)).1.2, (belowC (pairC (curNew code hb)).2 5).1)
def drDeliver (code : List Int) (hb : code.length ≤ 9223372036854775807) : List Row × List Int := ((anyRowsC (curNew code hb)).1, (fatesC (anyRowsC (curNew code hb)).2).1)

end Go.Proofs.Ytdoabhihpclliaa
