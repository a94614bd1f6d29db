/- Definitions and their laws. No condition. -/
import Derived.Test.YtaomckpfgmhapaaDoorCDs7
import Derived.Test.YtaomckpfgmhapaaDoorCDr
set_option linter.unusedVariables false
set_option linter.unusedSimpArgs false
namespace Go.Proofs.YtaomckpfgmhapaaDoor
open Go Go.RowKit M
set_option maxRecDepth 10000
def segWord (v : Version) : Bytes := fmtRow (rowOfV v) ++ [64] ++ itoa v.Born ++ (if v.Died = -1 then [] else [45] ++ itoa v.Died)
theorem segWord_ne (v : Version) : segWord v ≠ [] := by
  unfold segWord
  intro e
  have := congrArg List.length e
  simp at this
theorem ver_i64 {now : Int} {v : Version} (h : verOk now v = true) (hn : now ≤ 100000) : 0 ≤ v.Born ∧ v.Born ≤ 100000 ∧ -1 ≤ v.Died ∧ v.Died ≤ 100000 := by
  simp [verOk, inB] at h; omega
theorem segWord_len {now : Int} {v : Version} (h : verOk now v = true) (hn : now ≤ 100000) : (segWord v).length ≤ 200 := by
  have h1 := ver_i64 h hn
  have h2 := fmtRow_len (rowOfV v)
  have h3 : (itoa v.Born).length ≤ 21 := itoa_len (by unfold I64; omega)
  have h4 : (itoa v.Died).length ≤ 21 := itoa_len (by unfold I64; omega)
  unfold segWord
  split <;> simp only [List.length_append, List.length_cons, List.length_nil] <;> omega
def segLine (s : Store) (i : Int) : Bytes := if okStore s && inB i 0 (s.Segments.length - 1) then linesB ((s.Segments.getD i.toNat []).map segWord) else []
theorem segJ_len {s : Store} (h : okStore s = true) {i : Nat} (hi : i < s.Segments.length) (k : Nat) : (joinB ((s.Segments[i].take k).map segWord) [32]).length ≤ 1000 := by
  obtain ⟨a1, a2, a3, a4, a5, a6⟩ := sto_facts h
  have h1 := join_le (m := 200) (sep := [32]) (xs := (s.Segments[i].take k).map segWord) (by
    intro x hx
    obtain ⟨v, hv, rfl⟩ := List.mem_map.1 hx
    obtain ⟨j, hj, rfl⟩ := List.mem_iff_getElem.1 (List.mem_of_mem_take hv)
    exact segWord_len (sto_ver h hi hj) a4)
  have h2 := a5 _ (List.getElem_mem hi)
  rw [List.length_map, List.length_take] at h1
  simp only [List.length_cons, List.length_nil] at h1
  have : min k s.Segments[i].length * (200 + (0 + 1)) ≤ 4 * 201 := Nat.mul_le_mul (by omega) (by omega)
  omega

end Go.Proofs.YtaomckpfgmhapaaDoor
