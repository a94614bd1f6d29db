/- Definitions and their laws. No condition. -/
import Derived.Test.YteflgldonmgejaaGreatDoorCDa
set_option linter.unusedVariables false
set_option linter.unusedSimpArgs false
namespace Go.Proofs.YteflgldonmgejaaGreatDoor
open Go Go.RowKit M
set_option maxRecDepth 10000
theorem str_eq {a b : Bytes} (h : a = b) : [PV.val (.string (B a))] = [PV.val (.string (B b))] := by rw [h]
abbrev itoa (n : Int) : Bytes := Lib.itoa n
theorem itoa_len {n : Int} (h : I64 n) : (itoa n).length ≤ 21 := Lib.itoa_length_le n h.1 h.2
theorem dd_big {u : Nat} (h : 10 ≤ u) : Lib.decDigits u = Lib.decDigits (u / 10) ++ [UInt8.ofNat (48 + u % 10)] := by rw [Lib.decDigits, dif_neg (by omega)]
theorem dd_small {u : Nat} (h : u < 10) : Lib.decDigits u = [UInt8.ofNat (48 + u)] := by rw [Lib.decDigits, dif_pos h]
/-- What is still to be printed ahead of what is printed. -/
def numTo (n q : Int) (s : Bytes) : Prop := (if q = 0 then s else Lib.decDigits q.natAbs ++ s) = Lib.decDigits n.natAbs
theorem numTo_start {n : Int} (h : n ≠ 0) : numTo n n [] := by unfold numTo; rw [if_neg h, List.append_nil]
theorem natAbs_tdiv10 (q : Int) : (q.tdiv 10).natAbs = q.natAbs / 10 := by rw [Int.natAbs_tdiv]; rfl
theorem natAbs_tmod10 (q : Int) : (q.tmod 10).natAbs = q.natAbs % 10 := by rw [Int.natAbs_tmod]; rfl
theorem numTo_next {n q d : Int} {s : Bytes} (h : numTo n q s) (hq : q ≠ 0) (hd : d = ((q.natAbs % 10 : Nat) : Int)) : numTo n (q.tdiv 10) (bys [48 + d] ++ s) := by
  have e : bys [48 + d] = [UInt8.ofNat (48 + q.natAbs % 10)] := by
    subst hd
    show [UInt8.ofNat (48 + ((q.natAbs % 10 : Nat) : Int)).toNat] = _
    congr 2
  unfold numTo at h ⊢
  rw [if_neg hq] at h
  rw [e, ← h]
  by_cases h0 : q.tdiv 10 = 0
  · rw [if_pos h0]
    have : q.natAbs / 10 = 0 := by rw [← natAbs_tdiv10, h0]; rfl
    rw [dd_small (by omega), show q.natAbs % 10 = q.natAbs by omega]
  · rw [if_neg h0]
    have : q.natAbs / 10 ≠ 0 := by rw [← natAbs_tdiv10]; omega
    rw [dd_big (u := q.natAbs) (by omega), natAbs_tdiv10, List.append_assoc]
theorem numTo_end {n : Int} {s : Bytes} (h : numTo n 0 s) : s = Lib.decDigits n.natAbs := by unfold numTo at h; rwa [if_pos rfl] at h
theorem numTo_len {n q : Int} {s : Bytes} (h : numTo n q s) (hn : I64 n) : s.length ≤ 20 := by
  have hd : (Lib.decDigits n.natAbs).length ≤ 20 := by
    rw [Lib.decDigits_length]; exact Lib.nDigits_le20 _ (by unfold I64 at hn; omega)
  rw [← h] at hd
  split at hd
  · exact hd
  · rw [List.length_append] at hd; omega
theorem itoa_neg {n : Int} (h : n < 0) : itoa n = 45 :: Lib.decDigits n.natAbs := by show Lib.itoa n = _; rw [Lib.itoa, if_pos h]
theorem itoa_pos {n : Int} (h : ¬ n < 0) : itoa n = Lib.decDigits n.natAbs := by show Lib.itoa n = _; rw [Lib.itoa, if_neg h]; congr 1; omega
theorem itoa_zero : itoa 0 = [48] := by rw [itoa_pos (by omega)]; exact dd_small (by decide)
def listB (l : List Int) : Bytes := joinB (l.map itoa) [44]
end Go.Proofs.YteflgldonmgejaaGreatDoor
