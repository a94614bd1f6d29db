/- Definitions and their laws. No condition. -/
import Derived.Test.YteflgldonmgejaaGreatDoorCDn
set_option linter.unusedVariables false
set_option linter.unusedSimpArgs false
namespace Go.Proofs.YteflgldonmgejaaGreatDoor
open Go Go.RowKit M
set_option maxRecDepth 10000
def chgAt (x : Charge) (i : Nat) : Bool := inB (x.Tenants.getD i 0) 0 3 && inB (x.Rows.getD i 0) 0 x.Base
def chgTo (x : Charge) (k : Nat) : Bool := (List.range k).all (chgAt x)
theorem chgTo_succ {x : Charge} {k : Nat} : chgTo x (k + 1) = (chgTo x k && chgAt x k) := by simp [chgTo, List.range_succ]
def chgPre (x : Charge) : Bool := okSet x.Ids && (inB x.Ids.length 1 8 && (decide (x.Tenants.length = x.Ids.length) && decide (x.Rows.length = x.Ids.length)))
def okCharge (x : Charge) : Bool := (chgPre x && chgTo x x.Ids.length) && (inB x.Segment 0 7 && inB x.Base 0 4)
theorem chg_pre {x : Charge} (h : chgPre x = true) : 1 ≤ x.Ids.length ∧ x.Ids.length ≤ 8 ∧ x.Tenants.length = x.Ids.length ∧ x.Rows.length = x.Ids.length := by
  simp [chgPre, inB] at h; omega
theorem chg_no {x : Charge} {k : Nat} (hk : k < x.Ids.length) (h : chgAt x k = false) : okCharge x = false := by
  have : chgTo x x.Ids.length = false := by
    rw [← Bool.not_eq_true]
    intro hh
    have := List.all_eq_true.1 hh k (List.mem_range.2 hk)
    rw [h] at this; cases this
  unfold okCharge; rw [this]; simp
theorem chg_ok {x : Charge} (h : okCharge x = true) : chgPre x = true ∧ 0 ≤ x.Base ∧ x.Base ≤ 4 ∧ ∀ i, i < x.Ids.length → 0 ≤ x.Rows.getD i 0 ∧ x.Rows.getD i 0 ≤ 4 := by
  unfold okCharge at h
  simp only [Bool.and_eq_true] at h
  have hb : 0 ≤ x.Base ∧ x.Base ≤ 4 := by have := h.2.2; simp [inB] at this; exact this
  refine ⟨h.1.1, hb.1, hb.2, fun i hi => ?_⟩
  have := List.all_eq_true.1 h.1.2 i (List.mem_range.2 hi)
  simp only [chgAt, inB, Bool.and_eq_true, decide_eq_true_eq] at this
  omega
theorem isum_succ {α : Type} {l : List α} {f : α → Int} {k : Nat} (hk : k < l.length) : ((l.take (k + 1)).map f).sum = ((l.take k).map f).sum + f l[k] := by
  rw [tk_succ hk, List.map_append, List.sum_append]; simp
theorem isum_le {α : Type} {l : List α} {f : α → Int} {m : Int} (h : ∀ x, 0 ≤ f x ∧ f x ≤ m) (hm : 0 ≤ m) : 0 ≤ (l.map f).sum ∧ (l.map f).sum ≤ l.length * m := by
  induction l with
  | nil => simp
  | cons a l ih =>
    have := h a
    simp only [List.map_cons, List.sum_cons, List.length_cons, Int.natCast_add, Int.natCast_one, Int.add_mul, Int.one_mul]
    omega
theorem rsum_succ {f : Nat → Int} {k : Nat} : ((List.range (k + 1)).map f).sum = ((List.range k).map f).sum + f k := by
  rw [List.range_succ, List.map_append, List.sum_append]; simp
theorem rsum_le {f : Nat → Int} {m : Int} {n : Nat} (h : ∀ i, i < n → 0 ≤ f i ∧ f i ≤ m) : ∀ k, k ≤ n → 0 ≤ ((List.range k).map f).sum ∧ ((List.range k).map f).sum ≤ k * m
  | 0, _ => by simp
  | k + 1, hk => by
    have h1 := rsum_le h k (by omega)
    have h2 := h k (by omega)
    rw [rsum_succ]
    have e : ((k + 1 : Nat) : Int) * m = k * m + m := by rw [Int.natCast_add, Int.add_mul, Int.natCast_one, Int.one_mul]
    omega
def rowAtC (x : Charge) (i : Nat) : Int := x.Rows.getD i 0
def workDone (x : Charge) : Int := if okCharge x then x.Base + ((List.range x.Rows.length).map (rowAtC x)).sum else 0
theorem workDone_le (x : Charge) : 0 ≤ workDone x ∧ workDone x ≤ 36 := by
  unfold workDone
  split
  · rename_i h
    obtain ⟨h1, h2, h3, h4⟩ := chg_ok h
    have h5 := chg_pre h1
    have := rsum_le (f := rowAtC x) (m := 4) (n := x.Ids.length) (fun i hi => h4 i hi) x.Rows.length (by omega)
    omega
  · omega
def totalWork (l : List Charge) : Int := (l.map workDone).sum
def shareAt (x : Charge) (i : Nat) : Int := x.Rows.getD i 0 + x.Base.tdiv x.Ids.length + (if (i : Int) < x.Base.tmod x.Ids.length then 1 else 0)
def sharesOf (x : Charge) : List Int := if okCharge x then (List.range x.Ids.length).map (shareAt x) else []
theorem share_le {x : Charge} (h : okCharge x = true) {i : Nat} (hi : i < x.Ids.length) : 0 ≤ shareAt x i ∧ shareAt x i ≤ 9 := by
  obtain ⟨h1, h2, h3, h4⟩ := chg_ok h
  have h5 := chg_pre h1
  have h6 := h4 i hi
  have h7 := Int.tdiv_nonneg h2 (by omega : (0 : Int) ≤ x.Ids.length)
  have h8 := Int.tdiv_le_self (x.Ids.length : Int) h2
  unfold shareAt
  split <;> omega
theorem shares_len (x : Charge) : (sharesOf x).length ≤ 8 ∧ (okCharge x = true → (sharesOf x).length = x.Ids.length) := by
  unfold sharesOf
  split
  · rename_i h
    have h5 := chg_pre (chg_ok h).1
    rw [List.length_map, List.length_range]; exact ⟨by omega, fun _ => rfl⟩
  · rename_i h; exact ⟨by simp, fun hh => absurd hh h⟩
theorem shares_ok {x : Charge} {k : Nat} (h : k < (sharesOf x).length) : okCharge x = true ∧ k < x.Ids.length ∧ k < x.Tenants.length ∧ 0 ≤ (sharesOf x).getD k 0 ∧ (sharesOf x).getD k 0 ≤ 9 := by
  unfold sharesOf at h ⊢
  split at h
  · rename_i hk
    rw [List.length_map, List.length_range] at h
    have h5 := chg_pre (chg_ok hk).1
    refine ⟨hk, h, by omega, ?_⟩
    have := share_le hk h
    rw [if_pos hk, List.getD_eq_getElem?_getD, List.getElem?_map, List.getElem?_range h]
    exact this
  · simp at h
def tenAt (t : Int) (x : Charge) (k : Nat) : Int := if x.Tenants.getD k 0 = t then (sharesOf x).getD k 0 else 0
def tenOne (t : Int) (x : Charge) : Int := ((List.range (sharesOf x).length).map (tenAt t x)).sum
theorem shares_end {x : Charge} {k : Nat} (h : (k = x.Ids.length ∧ okCharge x = true) ∨ (k = 0 ∧ (x.Ids.length = 0 ∨ okCharge x = false))) : (List.range k).map (shareAt x) = sharesOf x := by
  unfold sharesOf
  rcases h with ⟨rfl, h⟩ | ⟨rfl, h⟩
  · rw [if_pos h]
  · split
    · rename_i h2
      rcases h with h | h
      · rw [h]
      · rw [h] at h2; cases h2
    · rfl
theorem tenAt_le {t : Int} {x : Charge} {k : Nat} (h : k < (sharesOf x).length) : 0 ≤ tenAt t x k ∧ tenAt t x k ≤ 9 := by
  have := shares_ok h
  unfold tenAt
  split <;> omega
theorem tenOne_le (t : Int) (x : Charge) : 0 ≤ tenOne t x ∧ tenOne t x ≤ 72 := by
  have h1 := rsum_le (f := tenAt t x) (m := 9) (n := (sharesOf x).length) (fun i hi => tenAt_le hi) _ (Nat.le_refl _)
  have h2 := (shares_len x).1
  unfold tenOne
  omega
def tenantCharge (l : List Charge) (t : Int) : Int := (l.map (tenOne t)).sum
theorem totalWork_le (l : List Charge) : 0 ≤ totalWork l ∧ totalWork l ≤ l.length * 36 := isum_le (fun x => workDone_le x) (by decide)
theorem tenantCharge_le (l : List Charge) (t : Int) : 0 ≤ tenantCharge l t ∧ tenantCharge l t ≤ l.length * 72 := isum_le (fun x => tenOne_le t x) (by decide)

end Go.Proofs.YteflgldonmgejaaGreatDoor
