/- Definitions and their laws. No condition. -/
import Derived.Test.YteflgldonmgejaaGreatDoorCDa
set_option linter.unusedVariables false
set_option linter.unusedSimpArgs false
namespace Go.Proofs.YteflgldonmgejaaGreatDoor
open Go Go.RowKit M
set_option maxRecDepth 10000
theorem adjAt {α : Type} {d : α} {p : α → Bool} {r : α → α → Bool} {l : List α} (h : adjAll d p r l = true) {k : Nat} (hk : k < l.length) : p l[k] = true := by
  have := List.all_eq_true.1 h k (List.mem_range.2 hk)
  rw [Bool.and_eq_true, getD_at hk] at this
  exact this.1
def q0_ : Query := ⟨0, 0, [], []⟩
def okOrder (o : List Int) : Bool := decide (o.length = 3) && (hasI o 0 && (hasI o 1 && hasI o 2))
def ordTo (o : List Int) (k : Nat) : Bool := (List.range k).all fun i => inB (o.getD i 0) 0 2 && !hasI (o.take i) (o.getD i 0)
theorem ordTo_succ {o : List Int} {k : Nat} : ordTo o (k + 1) = (ordTo o k && (inB (o.getD k 0) 0 2 && !hasI (o.take k) (o.getD k 0))) := by simp [ordTo, List.range_succ]
theorem ord_eq {o : List Int} (h : o.length = 3) : ordTo o 3 = okOrder o := by
  match o, h with
  | [a, b, c], _ =>
    rw [Bool.eq_iff_iff]
    simp [ordTo, okOrder, hasI, inB, List.range_succ]
    omega
theorem ord_no {o : List Int} {k : Nat} (hl : o.length = 3) (hk : k < 3) (h : (inB (o.getD k 0) 0 2 && !hasI (o.take k) (o.getD k 0)) = false) : okOrder o = false := by
  rw [← ord_eq hl, ← Bool.not_eq_true]
  intro hh
  have := List.all_eq_true.1 hh k (List.mem_range.2 hk)
  rw [h] at this; cases this

end Go.Proofs.YteflgldonmgejaaGreatDoor
