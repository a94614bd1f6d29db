/- Definitions and their laws. No condition. -/
import Derived.Test.YteflgldonmgejaaGreatDoorCDe
import Derived.Test.YteflgldonmgejaaGreatDoorCDn
set_option linter.unusedVariables false
set_option linter.unusedSimpArgs false
namespace Go.Proofs.YteflgldonmgejaaGreatDoor
open Go Go.RowKit M
set_option maxRecDepth 10000
def lineOf (a : Active) : Bytes := itoa a.Query.Id ++ [32, 97, 116, 32] ++ itoa a.Time ++ [32, 108, 101, 102, 116, 32] ++ itoa (a.Todo.length : Int) ++ [32, 114, 111, 119, 115, 32] ++ itoa (a.Rows.length : Int)
def actLine (a : Active) : Bytes := if awake a then lineOf a else lineOf a ++ [32, 97, 115, 108, 101, 101, 112]
noncomputable def actLines (e : Engine) : List Bytes := if okEngine e then e.Active.map actLine else []
theorem actLine_yes {a : Active} (h : awake a = true) : actLine a = lineOf a := if_pos h
theorem actLine_no {a : Active} (h : awake a = false) : actLine a = lineOf a ++ [32, 97, 115, 108, 101, 101, 112] := if_neg (by rw [h]; simp)
theorem actLines_yes {e : Engine} (h : okEngine e = true) : actLines e = e.Active.map actLine := if_pos h
theorem actLines_no {e : Engine} (h : okEngine e = false) : actLines e = [] := if_neg (by rw [h]; simp)
theorem act_facts {s : Store} {a : Active} (h : okActive s a = true) : (0 ≤ a.Query.Id ∧ a.Query.Id ≤ 23) ∧ (0 ≤ a.Time ∧ a.Time ≤ s.Now) ∧ a.Rows.length ≤ 1000 := by
  unfold okActive okQuery okRows at h
  simp only [Bool.and_eq_true, inB, decide_eq_true_eq] at h
  omega
theorem actLines_end {e : Engine} {k : Nat} (h : (k = e.Active.length ∧ okEngine e = true) ∨ (k = 0 ∧ (e.Active.length = 0 ∨ okEngine e = false))) : (e.Active.take k).map actLine = actLines e := by
  rcases h with ⟨rfl, h⟩ | ⟨rfl, h⟩
  · rw [List.take_length, actLines_yes h]
  · rcases h with h | h
    · unfold actLines
      rw [List.eq_nil_of_length_eq_zero h]
      split <;> rfl
    · rw [actLines_no h]; rfl
theorem sum_le_mul {α : Type} {f : α → Nat} {m : Nat} : ∀ l : List α, (∀ x ∈ l, f x ≤ m) → (l.map f).sum ≤ m * l.length
  | [], _ => by simp
  | x :: l, h => by
    have h1 := h x (List.mem_cons_self ..)
    have h2 := sum_le_mul l fun y hy => h y (List.mem_cons_of_mem _ hy)
    rw [List.map_cons, List.sum_cons, List.length_cons, Nat.mul_succ]; omega
theorem actLine_le {a : Active} (h0 : (itoa a.Query.Id).length ≤ 21) (h1 : (itoa a.Time).length ≤ 21) (h2 : (itoa (a.Todo.length : Int)).length ≤ 21) (h3 : (itoa (a.Rows.length : Int)).length ≤ 21) : (actLine a).length ≤ 150 := by
  unfold actLine lineOf
  split <;> simp only [List.length_append, List.length_cons, List.length_nil] <;> omega
theorem actLines_wt {e : Engine} (hb : wtEngine e ≤ 1048576) : wtStrS (actLines e) ≤ 2000 := by
  cases hok : okEngine e with
  | false => rw [actLines_no hok]; decide
  | true =>
    have hef := eng_facts hok
    have hsf := sto_facts hef.1
    rw [actLines_yes hok]
    unfold wtStrS
    rw [List.map_map, List.length_map]
    have h8 := hef.2.2.2.2.1
    have hs := sum_le_mul (f := wtStr ∘ actLine) (m := 150) e.Active (fun a ha => by
      have hac := act_facts (hef.2.2.2.2.2.2.2.2.2.1 a ha)
      have hta : a.Todo.length ≤ 1048576 := by
        obtain ⟨k, hk, rfl⟩ := List.mem_iff_getElem.1 ha
        have hwm := wt_mem (f := wtActive) hk
        have hwa : wtActive e.Active[k] = wtQuery e.Active[k].Query + e.Active[k].Todo.length + wtRowS e.Active[k].Rows := by simp only [wtActive, wtIntS_len, wtInt]; omega
        have hbu := hb
        simp only [wtEngine, wtActiveS] at hbu
        omega
      exact actLine_le (itoa_len (by unfold I64; omega)) (itoa_len (by unfold I64; omega)) (itoa_len (by unfold I64; omega)) (itoa_len (by unfold I64; omega)))
    omega

end Go.Proofs.YteflgldonmgejaaGreatDoor
