/- Definitions and their laws. No condition. -/
import Derived.Test.YtmekkgdboplbjaaCDsp
set_option linter.unusedVariables false
set_option linter.unusedSimpArgs false
namespace Go.Proofs.Ytmekkgdboplbjaa
open Go Go.RowKit M
set_option maxRecDepth 10000
def rounds (n : Int) : Nat := (min (max n 0) 200).toNat
theorem rounds_le (n : Int) : rounds n ≤ 200 := by unfold rounds; omega
def runE (e : Engine) : Nat → Engine
 | 0 => e
 | k + 1 => stepEng (runE e k)
def runEngine (e : Engine) (n : Int) : Engine := runE e (rounds n)
theorem runE_wt (e : Engine) : ∀ k : Nat, wtEngine (runE e k) ≤ wtEngine e + 200 * k
 | 0 => by rw [runE]; omega
 | k + 1 => by
  have h1 := runE_wt e k
  have h3 := stepEng_wt (runE e k)
  rw [runE]; omega
theorem runEngine_wt (e : Engine) (n : Int) : wtEngine (runEngine e n) ≤ wtEngine e + 40000 := by
 have h1 := runE_wt e (rounds n)
 have h2 := rounds_le n
 unfold runEngine; omega
end Go.Proofs.Ytmekkgdboplbjaa
