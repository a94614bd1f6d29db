/- Definitions and their laws. No condition. -/
import Derived.Test.YtaomckpfgmhapaaCDq
import Derived.Test.YtaomckpfgmhapaaCDh
set_option linter.unusedVariables false
set_option linter.unusedSimpArgs false
namespace Go.Proofs.Ytaomckpfgmhapaa
open Go Go.RowKit M
set_option maxRecDepth 10000
noncomputable def d14A (c : Cur) : List Annotated := (any13C c).1
noncomputable def d14I (c : Cur) : List Int × Cur := anySetC (d14G c).2
noncomputable def d14K (c : Cur) : Int × Cur := pickC (d14I c).2 [0, 1, 2, 3, 100, 101]
noncomputable def drTop (code : List Int) (hb : code.length ≤ 9223372036854775807) : List Annotated × List Int × Int × Int := ((any13C (curNew code hb)).1, (d14I (curNew code hb)).1, (d14C (curNew code hb)).1, (d14K (curNew code hb)).1)
noncomputable def d15R (c : Cur) : List Routed × Cur := ((topShared (any13C c).1 [0, 1, 2] (belowC (any13C c).2 3).1 (1 + (belowC (belowC (any13C c).2 3).2 3).1)).1, (belowC (belowC (any13C c).2 3).2 3).2)
@[reducible] noncomputable def d15O (c : Cur) : Int × Cur := belowC (d15R c).2 2
noncomputable def d15B (c : Cur) : List Routed := if (d15O c).1 = 0 then (d15R c).1 else (d15R (d15O c).2).1
theorem d15B_0 {c : Cur} (h : (d15O c).1 = 0) : d15B c = (d15R c).1 := if_pos h
theorem d15B_1 {c : Cur} (h : ¬ (d15O c).1 = 0) : d15B c = (d15R (d15O c).2).1 := if_neg h
noncomputable def drEqR (code : List Int) (hb : code.length ≤ 9223372036854775807) : List Routed × List Routed := ((d15R (curNew code hb)).1, d15B (curNew code hb))
theorem d15R_wt (c : Cur) : wtRoutedS (d15R c).1 ≤ 10000 := by
  have h1 := any13C_wt c
  have h2 := topShared_wt (any13C c).1 [0, 1, 2] (belowC (any13C c).2 3).1 (1 + (belowC (belowC (any13C c).2 3).2 3).1)
  unfold d15R
  dsimp only
  omega
theorem d15R_rows (c : Cur) : (d15R c).1.length ≤ wtRoutedS (d15R c).1 := Nat.le_add_right _ _

end Go.Proofs.Ytaomckpfgmhapaa
