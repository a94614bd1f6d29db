/- Definitions and their laws. No condition. -/
import Derived.Test.YtmekkgdboplbjaaCDa
set_option linter.unusedVariables false
set_option linter.unusedSimpArgs false
namespace Go.Proofs.Ytmekkgdboplbjaa
open Go Go.RowKit M
set_option maxRecDepth 10000
def atB (code : List Int) (i : Int) : Int := if i < code.length then IntKind.i64.wrap (code.getD i.toNat 0) else (i * 37 + (code.length : Int) * 11).tmod 256
theorem atB_yes {code : List Int} {i : Int} (h : i < code.length) : atB code i = IntKind.i64.wrap (code.getD i.toNat 0) := if_pos h
theorem atB_no {code : List Int} {i : Int} (h : ¬ i < code.length) : atB code i = (i * 37 + (code.length : Int) * 11).tmod 256 := if_neg h
theorem atB_ge {code : List Int} (hc : ∀ x ∈ code, 0 ≤ x ∧ x ≤ 255) (i : Int) (hi : 0 ≤ i) : 0 ≤ atB code i ∧ atB code i ≤ 255 := by
 unfold atB
 split
 ·rename_i h
  have hl : i.toNat < code.length := by omega
  rw [List.getD_eq_getElem?_getD, List.getElem?_eq_getElem hl, Option.getD_some]
  have := hc _ (List.getElem_mem hl)
  rw [IntWalk.i64_in _ (by omega)]
  exact this
 ·have h1 := Int.tmod_nonneg 256 (show 0 ≤ i * 37 + (code.length : Int) * 11 by omega)
  have h2 := Int.tmod_lt_of_pos (i * 37 + (code.length : Int) * 11) (show (0 : Int) < 256 by decide)
  omega
end Go.Proofs.Ytmekkgdboplbjaa
