/- Definitions and their laws. No condition. -/
import Derived.Test.YteflgldonmgejaaGreatDoorCDn
set_option linter.unusedVariables false
set_option linter.unusedSimpArgs false
namespace Go.Proofs.YteflgldonmgejaaGreatDoor
open Go Go.RowKit M
set_option maxRecDepth 10000
def markText (k : Int) : Bytes := if k ≤ 0 then [109, 48] else 109 :: itoa k
theorem markText_no {k : Int} (h : k ≤ 0) : markText k = [109, 48] := if_pos h
theorem markText_yes {k : Int} (h : ¬ k ≤ 0) : markText k = 109 :: Lib.decDigits k.natAbs := by unfold markText; rw [if_neg h, itoa_pos (by omega)]
def mkE_Str (x : Bytes) (k : Int) : Bytes × Int := ((markText k), (k + 1))
theorem mkE_Str_le (x : Bytes) (k : Int) : k ≤ (mkE_Str x k).2 := by
  show k ≤ (k + 1)
  omega
theorem ctE_Str (x : Bytes) (k : Int) : (mkE_Str x k).2 ≤ k + 1 + 0 * (wtStr x : Int) := by simp [mkE_Str]
theorem ctL_StrS (x : List Bytes) (k : Int) : (mkL mkE_Str x k).2 ≤ k + 1 * (wtStrS x : Int) := ctL (s := 1) (c := 0) ctE_Str (by decide) (by decide) x k

end Go.Proofs.YteflgldonmgejaaGreatDoor
