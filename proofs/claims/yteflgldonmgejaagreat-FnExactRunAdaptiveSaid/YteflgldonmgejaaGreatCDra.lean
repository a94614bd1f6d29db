/- Definitions and their laws. No condition. -/
import Derived.Test.YteflgldonmgejaaGreatCDsp
import Derived.Test.YteflgldonmgejaaGreatCDad
set_option linter.unusedVariables false
set_option linter.unusedSimpArgs false
namespace Go.Proofs.YteflgldonmgejaaGreat
open Go Go.RowKit M
set_option maxRecDepth 10000
def rounds (n : Int) : Nat := (min (max n 0) 200).toNat
noncomputable def runA (e : Engine) : Nat → Engine
 | 0 => e
 | k + 1 => stepEng (adapt (runA e k))
noncomputable def runAdaptive (e : Engine) (n : Int) : Engine := runA e (rounds n)
theorem rounds_le (n : Int) : rounds n ≤ 200 := by unfold rounds; omega
theorem runA_wt (e : Engine) : ∀ k : Nat, wtEngine (runA e k) ≤ wtEngine e + 203 * k
 | 0 => by rw [runA]; omega
 | k + 1 => by
  have h1 := runA_wt e k
  have h2 := adapt_wt (runA e k)
  have h3 := stepEng_wt (adapt (runA e k))
  rw [runA]; omega
theorem runAdaptive_wt (e : Engine) (n : Int) : wtEngine (runAdaptive e n) ≤ wtEngine e + 40600 := by
 have h1 := runA_wt e (rounds n)
 have h2 := rounds_le n
 unfold runAdaptive; omega
end Go.Proofs.YteflgldonmgejaaGreat
