/- Definitions and their laws. No condition. -/
import Derived.Test.YteflgldonmgejaaGreatCDe
set_option linter.unusedVariables false
set_option linter.unusedSimpArgs false
namespace Go.Proofs.YteflgldonmgejaaGreat
open Go Go.RowKit M
set_option maxRecDepth 10000
def nIntS (z : List Int × (Nat → Value)) : List PV := [PV.nv (z.2 0) (PV.sl .v (z.1.map cInt))]
noncomputable def zbTo (x : Index) (l : List Row) (zs : List (List Int × (Nat → Value))) : Nat → List Int × (Nat → Value)
  | 0 => zs.getD 0 ([], fun _ => undef)
  | k + 1 => if workOf x l (zs.getD k ([], fun _ => undef)).1 < workOf x l (zbTo x l zs k).1 then zs.getD k ([], fun _ => undef) else zbTo x l zs k
theorem zs_at {zs : List (List Int × (Nat → Value))} (hz : zs.map Prod.fst = ordersL) {k : Nat} (hk : k < zs.length) : (zs.getD k ([], fun _ => undef)).1 = ordersL.getD k [] := by
  rw [← hz]
  simp [hk]
theorem zbTo_fst {x : Index} {l : List Row} {zs : List (List Int × (Nat → Value))} (hz : zs.map Prod.fst = ordersL) : ∀ {k : Nat}, k ≤ 6 → (zbTo x l zs k).1 = bestTo x l k
  | 0, _ => by
    have h6 : zs.length = 6 := by rw [← List.length_map (f := Prod.fst), hz]; rfl
    rw [zbTo, zs_at hz (by omega)]; rfl
  | k + 1, h => by
    have h6 : zs.length = 6 := by rw [← List.length_map (f := Prod.fst), hz]; rfl
    rw [zbTo, bestTo, zs_at hz (by omega), zbTo_fst hz (k := k) (by omega)]
    split
    · exact zs_at hz (by omega)
    · exact zbTo_fst hz (k := k) (by omega)
theorem zbTo_mem {x : Index} {l : List Row} {zs : List (List Int × (Nat → Value))} (h : 0 < zs.length) : ∀ {k : Nat}, k ≤ zs.length → zbTo x l zs k ∈ zs
  | 0, _ => by rw [zbTo, getD_at h]; exact List.getElem_mem h
  | k + 1, hk => by
    rw [zbTo]
    split
    · rw [getD_at (show k < zs.length by omega)]; exact List.getElem_mem _
    · exact zbTo_mem h (k := k) (by omega)
theorem zbTo_yes {x : Index} {l : List Row} {zs : List (List Int × (Nat → Value))} {k : Nat} (hk : k < zs.length) (h : workOf x l zs[k].1 < workOf x l (zbTo x l zs k).1) : zbTo x l zs (k + 1) = zs[k] := by
  rw [zbTo, getD_at hk, if_pos h]
theorem zbTo_no {x : Index} {l : List Row} {zs : List (List Int × (Nat → Value))} {k : Nat} (hk : k < zs.length) (h : ¬ workOf x l zs[k].1 < workOf x l (zbTo x l zs k).1) : zbTo x l zs (k + 1) = zbTo x l zs k := by
  rw [zbTo, getD_at hk, if_neg h]
noncomputable def spz (x : Index) (l : List Row) (z0 : List Int × (Nat → Value)) (zs : List (List Int × (Nat → Value))) (k : Nat) : List Int × (Nat → Value) := if k = 0 then z0 else zbTo x l zs k
theorem spz_fst {x : Index} {l : List Row} {z0 : List Int × (Nat → Value)} {zs : List (List Int × (Nat → Value))} (h0 : z0.1 = []) (hz : zs.map Prod.fst = ordersL) {k : Nat} (hk : k ≤ 6) : (spz x l z0 zs k).1 = spBest x l k := by
  unfold spz spBest
  split
  · exact h0
  · exact zbTo_fst hz hk
theorem spz_mem {x : Index} {l : List Row} {z0 : List Int × (Nat → Value)} {zs : List (List Int × (Nat → Value))} (h : 0 < zs.length) {k : Nat} (hk : k ≤ zs.length) : spz x l z0 zs k ∈ [z0] ++ zs := by
  unfold spz
  split
  · simp
  · exact List.mem_append_right _ (zbTo_mem h hk)
theorem spz_yes {x : Index} {l : List Row} {z0 : List Int × (Nat → Value)} {zs : List (List Int × (Nat → Value))} (hz : zs.map Prod.fst = ordersL) {k : Nat} (hk : k < zs.length) (h : k = 0 ∨ workOf x l zs[k].1 < spLeast x l k) : spz x l z0 zs (k + 1) = zs[k] := by
  have h6 : zs.length = 6 := by rw [← List.length_map (f := Prod.fst), hz]; rfl
  unfold spz
  rw [if_neg (by omega)]
  rcases Nat.eq_zero_or_pos k with h0 | h0
  · subst h0
    rw [zbTo]
    show (if _ then zs.getD 0 _ else zs.getD 0 _) = _
    rw [ite_self, getD_at hk]
  · have h : workOf x l zs[k].1 < spLeast x l k := h.resolve_left (by omega)
    unfold spLeast at h
    rw [if_neg (by omega), ← zbTo_fst hz (by omega)] at h
    exact zbTo_yes hk h
theorem spz_no {x : Index} {l : List Row} {z0 : List Int × (Nat → Value)} {zs : List (List Int × (Nat → Value))} (hz : zs.map Prod.fst = ordersL) {k : Nat} (hk : k < zs.length) (h0 : k ≠ 0) (h : ¬ workOf x l zs[k].1 < spLeast x l k) : spz x l z0 zs (k + 1) = spz x l z0 zs k := by
  have h6 : zs.length = 6 := by rw [← List.length_map (f := Prod.fst), hz]; rfl
  unfold spLeast at h
  rw [if_neg h0, ← zbTo_fst hz (by omega)] at h
  unfold spz
  rw [if_neg (by omega), if_neg h0]
  exact zbTo_no hk h
theorem zs_len {zs : List (List Int × (Nat → Value))} (hz : zs.map Prod.fst = ordersL) : zs.length = 6 := by rw [← List.length_map (f := Prod.fst), hz]; rfl
theorem zs_ord {zs : List (List Int × (Nat → Value))} (hz : zs.map Prod.fst = ordersL) {k : Nat} (hk : k < zs.length) (hk2 : k < ordersL.length) : zs[k].1 = ordersL[k] := by
  have := zs_at hz hk; rwa [getD_at hk, getD_at hk2] at this

end Go.Proofs.YteflgldonmgejaaGreat
