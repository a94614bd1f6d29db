/- Definitions and their laws. No condition. -/
import Derived.Test.YtmekkgdboplbjaaCDam
import Derived.Test.YtmekkgdboplbjaaCF2
set_option linter.unusedVariables false
set_option linter.unusedSimpArgs false
namespace Go.Proofs.Ytmekkgdboplbjaa
open Go Go.RowKit M
set_option maxRecDepth 10000
def delE (e : Engine) (i : Nat) : Engine := ⟨e.Store, e.Cursor, e.Order, delZ e.Active i, e.Done, e.Ledger, e.Steps⟩
def cancelOk (e : Engine) (id : Int) : Bool := okEngine e && decide (0 ≤ findA e.Active id)
def cancelE (e : Engine) (id : Int) : Engine × Bool := if cancelOk e id then (reclaimE (delE e (findA e.Active id).toNat), true) else (e, false)
theorem cancel_no {e : Engine} {id : Int} (h : cancelOk e id = false) : cancelE e id = (e, false) := if_neg (by rw [h]; simp)
theorem cancel_yes {e : Engine} {id : Int} (h : cancelOk e id = true) : cancelE e id = (reclaimE (delE e (findA e.Active id).toNat), true) := if_pos h
theorem cancel_at {e : Engine} {id : Int} {i : Nat} (h : cancelOk e id = true) (hf : findA e.Active id = (i : Int)) : cancelE e id = (reclaimE (delE e i), true) := by rw [cancel_yes h, hf]; rfl
theorem findA_ge {l : List Active} {id : Int} (h : 0 ≤ findA l id) : ∃ i : Nat, i < l.length ∧ findA l id = (i : Int) := by
 unfold findA at *
 split at h
 ·rename_i ha
  rw [if_pos ha]
  obtain ⟨a, ha1, ha2⟩ := List.any_eq_true.1 ha
  exact ⟨l.findIdx (idP id), List.findIdx_lt_length_of_exists ⟨a, ha1, ha2⟩, rfl⟩
 ·omega
theorem delZ_map {α β : Type} {f : α → β} {zs : List α} {l : List β} {i : Nat} (hz : zs.map f = l) : (delZ zs i).map f = delZ l i := by
 subst hz; unfold delZ; rw [List.map_append, List.map_take, List.map_drop]
theorem delZ_perm {α : Type} {zs : List α} {i : Nat} (hi : i < zs.length) : (delZ zs i ++ [zs[i]]).Perm zs := by
 unfold delZ
 have : zs = zs.take i ++ (zs[i] :: zs.drop (i + 1)) := by rw [← List.drop_eq_getElem_cons hi, List.take_append_drop]
 conv => rhs; rw [this]
 rw [List.append_assoc]
 refine List.Perm.append_left _ ?_
 exact List.perm_append_singleton _ _
theorem delE_wt {e : Engine} {i : Nat} (hi : i < e.Active.length) : wtEngine (delE e i) ≤ wtEngine e := by
 have hs : ((delZ e.Active i).map wtActive).sum + wtActive e.Active[i] = (e.Active.map wtActive).sum := by
  have := ((delZ_perm hi).map wtActive).sum_nat
  rw [List.map_append, List.sum_append] at this
  simpa using this
 have hl := delZ_len hi
 unfold delE wtEngine wtActiveS
 dsimp only
 rw [hl]; omega
theorem cancel_wt (e : Engine) (id : Int) : wtEngine (cancelE e id).1 ≤ wtEngine e := by
 cases h : cancelOk e id with
 | false => rw [cancel_no h]; exact Nat.le_refl _
 | true =>
  have h2 := h
  unfold cancelOk at h2
  simp only [Bool.and_eq_true, decide_eq_true_eq] at h2
  obtain ⟨i, hi, hf⟩ := findA_ge h2.2
  rw [cancel_at h hf]
  have h3 := reclaimE_wt (delE e i)
  have h4 := delE_wt hi
  dsimp only; omega
end Go.Proofs.Ytmekkgdboplbjaa
