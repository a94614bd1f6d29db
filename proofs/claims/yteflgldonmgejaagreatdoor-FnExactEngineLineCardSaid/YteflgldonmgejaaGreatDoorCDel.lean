/- Definitions and their laws. No condition. -/
import Derived.Test.YteflgldonmgejaaGreatDoorCDe
import Derived.Test.YteflgldonmgejaaGreatDoorCDn
set_option linter.unusedVariables false
set_option linter.unusedSimpArgs false
namespace Go.Proofs.YteflgldonmgejaaGreatDoor
open Go Go.RowKit M
set_option maxRecDepth 10000
def cntV (s : Store) : Nat := (allV s).length
def engWords (e : Engine) : List Bytes := [[115, 116, 101, 112], itoa e.Steps, [99, 117, 114, 115, 111, 114], itoa e.Cursor, [116, 105, 109, 101], itoa e.Store.Now, [118, 101, 114, 115, 105, 111, 110, 115], itoa (cntV e.Store : Int), [97, 99, 116, 105, 118, 101], itoa (e.Active.length : Int), [100, 111, 110, 101], itoa (e.Done.length : Int)]
noncomputable def engLine (e : Engine) : Bytes := if okEngine e then joinB (engWords e) [32] else []
def cntTo (s : Store) (k : Nat) : Nat := (preN s k).length
theorem cntTo_succ {s : Store} {k : Nat} (hk : k < s.Segments.length) : cntTo s (k + 1) = cntTo s k + s.Segments[k].length := by unfold cntTo; rw [preN_succ hk, List.length_append]
theorem cntTo_le {s : Store} (k : Nat) (hk : k ≤ s.Segments.length) : cntTo s k ≤ cntV s := by
  unfold cntTo cntV preN allV
  have e : s.Segments.flatten = (s.Segments.take k).flatten ++ (s.Segments.drop k).flatten := by rw [← List.flatten_append, List.take_append_drop]
  rw [e, List.length_append]; omega
theorem engJ_le {e : Engine} (h0 : (itoa e.Steps).length ≤ 21) (h1 : (itoa e.Cursor).length ≤ 21) (h2 : (itoa e.Store.Now).length ≤ 21) (h3 : (itoa (cntV e.Store : Int)).length ≤ 21) (h4 : (itoa (e.Active.length : Int)).length ≤ 21) (h5 : (itoa (e.Done.length : Int)).length ≤ 21) : (joinB (engWords e) [32]).length ≤ 1000 := by
  have h := join_le (m := 22) (sep := [32]) (xs := engWords e) (by
    intro x hx
    unfold engWords at hx
    simp only [List.mem_cons, List.not_mem_nil, or_false] at hx
    rcases hx with rfl | rfl | rfl | rfl | rfl | rfl | rfl | rfl | rfl | rfl | rfl | rfl <;> first | omega | (simp only [List.length_cons, List.length_nil]; omega))
  have e12 : (engWords e).length = 12 := rfl
  rw [e12] at h
  simp only [List.length_cons, List.length_nil] at h
  omega

end Go.Proofs.YteflgldonmgejaaGreatDoor
