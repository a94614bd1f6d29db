/- Definitions and their laws. No condition. -/
import Derived.Test.YteflgldonmgejaaGreatCDe
set_option linter.unusedVariables false
set_option linter.unusedSimpArgs false
namespace Go.Proofs.YteflgldonmgejaaGreat
open Go Go.RowKit M
set_option maxRecDepth 10000
noncomputable def setOrder (e : Engine) (o : List Int) : Engine × Bool := if okEngine e && okOrder o then ({ e with Order := o }, true) else (e, false)
theorem setOrder_yes {e : Engine} {o : List Int} (h : (okEngine e && okOrder o) = true) : setOrder e o = ({ e with Order := o }, true) := if_pos h
theorem setOrder_no {e : Engine} {o : List Int} (h : (okEngine e && okOrder o) = false) : setOrder e o = (e, false) := if_neg (by rw [h]; simp)
noncomputable def adapt (e : Engine) : Engine := (setOrder e (chooseOrder e)).1
theorem setOrder_wt (e : Engine) (o : List Int) : wtEngine (setOrder e o).1 ≤ wtEngine e + o.length := by
 unfold setOrder
 split
 ·simp only [wtEngine, wtIntS_len, wtInt]; omega
 ·dsimp only; omega
theorem adapt_wt (e : Engine) : wtEngine (adapt e) ≤ wtEngine e + 3 := by
 have h1 := setOrder_wt e (chooseOrder e)
 have h2 := chooseOrder_len e
 unfold adapt
 omega
end Go.Proofs.YteflgldonmgejaaGreat
