/- Definitions and their laws. No condition. -/
import Derived.Test.YteflgldonmgejaaGreatDoorCDa
set_option linter.unusedVariables false
set_option linter.unusedSimpArgs false
namespace Go.Proofs.YteflgldonmgejaaGreatDoor
open Go Go.RowKit M
set_option maxRecDepth 10000
theorem PV.to_eqv {o : Fl} {es ds : List (List PV)} (h : es = ds) : (PV.sl o es).To (PV.sl .v ds) := by subst h; exact PV.to_none
theorem str_eq {a b : Bytes} (h : a = b) : [PV.val (.string (B a))] = [PV.val (.string (B b))] := by rw [h]
abbrev itoa (n : Int) : Bytes := Lib.itoa n
theorem itoa_len {n : Int} (h : I64 n) : (itoa n).length ≤ 21 := Lib.itoa_length_le n h.1 h.2
theorem i64_of {n : Int} (a : -9223372036854775808 ≤ n) (b : n ≤ 9223372036854775807) : I64 n := ⟨a, b⟩
theorem inB_iff0 {n l h : Int} : inB n l h = true ↔ l ≤ n ∧ n ≤ h := by simp [inB]
theorem dd_big {u : Nat} (h : 10 ≤ u) : Lib.decDigits u = Lib.decDigits (u / 10) ++ [UInt8.ofNat (48 + u % 10)] := by rw [Lib.decDigits, dif_neg (by omega)]
theorem dd_small {u : Nat} (h : u < 10) : Lib.decDigits u = [UInt8.ofNat (48 + u)] := by rw [Lib.decDigits, dif_pos h]
/-- What is still to be printed ahead of what is printed. -/
def numTo (n q : Int) (s : Bytes) : Prop := (if q = 0 then s else Lib.decDigits q.natAbs ++ s) = Lib.decDigits n.natAbs
theorem numTo_start {n : Int} (h : n ≠ 0) : numTo n n [] := by unfold numTo; rw [if_neg h, List.append_nil]
theorem natAbs_tdiv10 (q : Int) : (q.tdiv 10).natAbs = q.natAbs / 10 := by rw [Int.natAbs_tdiv]; rfl
theorem natAbs_tmod10 (q : Int) : (q.tmod 10).natAbs = q.natAbs % 10 := by rw [Int.natAbs_tmod]; rfl
theorem numTo_next {n q d : Int} {s : Bytes} (h : numTo n q s) (hq : q ≠ 0) (hd : d = ((q.natAbs % 10 : Nat) : Int)) : numTo n (q.tdiv 10) (bys [48 + d] ++ s) := by
  have e : bys [48 + d] = [UInt8.ofNat (48 + q.natAbs % 10)] := by
    subst hd
    show [UInt8.ofNat (48 + ((q.natAbs % 10 : Nat) : Int)).toNat] = _
    congr 2
  unfold numTo at h ⊢
  rw [if_neg hq] at h
  rw [e, ← h]
  by_cases h0 : q.tdiv 10 = 0
  · rw [if_pos h0]
    have : q.natAbs / 10 = 0 := by rw [← natAbs_tdiv10, h0]; rfl
    rw [dd_small (by omega), show q.natAbs % 10 = q.natAbs by omega]
  · rw [if_neg h0]
    have : q.natAbs / 10 ≠ 0 := by rw [← natAbs_tdiv10]; omega
    rw [dd_big (u := q.natAbs) (by omega), natAbs_tdiv10, List.append_assoc]
theorem numTo_end {n : Int} {s : Bytes} (h : numTo n 0 s) : s = Lib.decDigits n.natAbs := by unfold numTo at h; rwa [if_pos rfl] at h
theorem numTo_len {n q : Int} {s : Bytes} (h : numTo n q s) (hn : I64 n) : s.length ≤ 20 := by
  have hd : (Lib.decDigits n.natAbs).length ≤ 20 := by
    rw [Lib.decDigits_length]; exact Lib.nDigits_le20 _ (by unfold I64 at hn; omega)
  rw [← h] at hd
  split at hd
  · exact hd
  · rw [List.length_append] at hd; omega
theorem itoa_neg {n : Int} (h : n < 0) : itoa n = 45 :: Lib.decDigits n.natAbs := by show Lib.itoa n = _; rw [Lib.itoa, if_pos h]
theorem itoa_pos {n : Int} (h : ¬ n < 0) : itoa n = Lib.decDigits n.natAbs := by show Lib.itoa n = _; rw [Lib.itoa, if_neg h]; congr 1; omega
theorem itoa_zero : itoa 0 = [48] := by rw [itoa_pos (by omega)]; exact dd_small (by decide)
theorem snoc_ind {α : Type} {P : List α → Prop} (h0 : P []) (h1 : ∀ l a, P l → P (l ++ [a])) (l : List α) : P l := by
  have h : ∀ r : List α, P r.reverse := by
    intro r
    induction r with
    | nil => exact h0
    | cons a r ih => rw [List.reverse_cons]; exact h1 _ _ ih
  simpa using h l.reverse
theorem join_snoc {xs : List Bytes} {y sep : Bytes} : joinB (xs ++ [y]) sep = (if xs = [] then y else joinB xs sep ++ sep ++ y) := by
  cases xs with
  | nil => simp [joinB, Lib.join_one]
  | cons x r =>
    rw [if_neg (by simp)]
    unfold joinB
    rw [List.cons_append, Lib.join_cons, Lib.join_cons]
    simp [Lib.joinTail, List.append_assoc]
theorem join_nil {sep : Bytes} : joinB [] sep = [] := rfl
theorem join_le {m : Nat} {sep : Bytes} {xs : List Bytes} (h : ∀ x ∈ xs, x.length ≤ m) : (joinB xs sep).length ≤ xs.length * (m + sep.length) := by
  induction xs using snoc_ind with
  | h0 => simp [join_nil]
  | h1 xs y ih =>
    have h1 := ih fun x hx => h x (by simp [hx])
    have h2 := h y (by simp)
    rw [join_snoc, List.length_append, List.length_singleton, Nat.succ_mul]
    split
    · omega
    · simp only [List.length_append]; omega
theorem join_flat {sep : Bytes} {a b : List Bytes} (ha : a ≠ []) (hb : b ≠ []) : joinB (a ++ b) sep = joinB a sep ++ sep ++ joinB b sep := by
  induction b using snoc_ind with
  | h0 => exact absurd rfl hb
  | h1 b y ih =>
    rw [← List.append_assoc, join_snoc, if_neg (by simp [ha]), join_snoc]
    split
    · rename_i h; subst h; simp
    · rename_i h
      rw [ih h]; simp [List.append_assoc]
theorem join_two {xs : List Bytes} {a b sep : Bytes} (h : xs ≠ []) : joinB (xs ++ [a, b]) sep = joinB xs sep ++ sep ++ a ++ sep ++ b := by
  rw [show xs ++ [a, b] = (xs ++ [a]) ++ [b] by simp, join_snoc, if_neg (by simp), join_snoc, if_neg h]
def listB (l : List Int) : Bytes := joinB (l.map itoa) [44]
theorem listB_len {l : List Int} (h : ∀ x ∈ l, I64 x) : (listB l).length ≤ l.length * 22 := by
  have := join_le (m := 21) (sep := [44]) (xs := l.map itoa) (by intro x hx; obtain ⟨y, hy, rfl⟩ := List.mem_map.1 hx; exact itoa_len (h y hy))
  simpa [listB] using this
theorem listB_succ {l : List Int} {k : Nat} (hk : k < l.length) : listB (l.take (k + 1)) = (if k = 0 then itoa l[k] else listB (l.take k) ++ [44] ++ itoa l[k]) := by
  unfold listB
  rw [tk_succ hk, List.map_append, List.map_cons, List.map_nil, join_snoc]
  by_cases h : k = 0
  · subst h; simp
  · rw [if_neg h, if_neg]
    intro e
    have := congrArg List.length e
    simp at this
    rcases this with e | e
    · exact h e
    · rw [e] at hk; simp at hk

end Go.Proofs.YteflgldonmgejaaGreatDoor
