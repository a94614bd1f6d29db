/-
  No cell of these rows narrows 'for every input' (looked for: loops, veiled, ifaces, maps, wideKeys, modest, calm, conditions, laid).
  DERIVED. THE GIVEN ROWS OF THIS SEAT. 6 by the template 'for every input the law returns true; each argument reads behind the call as it read before'; 0 by the template 'total and deterministic' (their statements: YteflgldonmgejaaGreatTotals.lean).
  GIVEN WITH THE SEED: the statements are not yours to turn. If you find one false, say at which input.
  Laid BY PROGRAM, IN A SANDBOX (cutbox-rows.mjs): the forced cells as the released guide's own fill.sh prints them over the translation 4c2a76bf88a50505… (all of the seat's roots in one cut). By AI agents, Wed Nov 11 2026. No macro, syntax, notation, axiom, sorry.
-/
import Derived.Test.YteflgldonmgejaaGreatChecked
import GoSem.Claim
import GoSem.ClaimJoined
import GoSem.ClaimMapViews
import Derived.JoinedTies
import Derived.KernelRfl
namespace Go.Proofs.YteflgldonmgejaaGreat
/- THE CELL 'sum', in the pinned program and in every row, IS THE sha256 OF THE DUMP (.gsa) THAT YteflgldonmgejaaGreatProg.lean LOADS. Nothing in Lean hashes anything: it is a label: what it is worth is what the hold of that sum in a sandbox is worth. -/
noncomputable def Tryz.pinned : Pinned := { name := "yteflgldonmgejaagreat", sum := "4c2a76bf88a505051ab596627c0d5623d9863ef3b8ae3122430685c89e8a7fb2", checked := Tryz.checked }
namespace Rows
def none {H : Type} : Left H := { results := [], args := [] }

/-- 'laws.FnExactProbeWork': WHATEVER THE INPUT: true; the input reads as it did. -/
def fnExactProbeWorkSpec : ChangeSpec := { name := "fnExactProbeWork", fn := fun _ => fun
  | [d] => { results := [.lit (.bool true)], args := [d] }
  | _ => none }
def fnExactProbeWorkRow : OpenClaim := { program := "yteflgldonmgejaagreat", sum := "4c2a76bf88a505051ab596627c0d5623d9863ef3b8ae3122430685c89e8a7fb2", func := "loop.example/g01986/laws.FnExactProbeWork", spec := "fnExactProbeWork", unfollowed := true, recurses := true, apart := false }
def FnExactProbeWorkSaid : Prop := fnExactProbeWorkRow.holds Tryz.pinned (OpenSpec.ofChange fnExactProbeWorkSpec)

/-- ITS FALSE NEIGHBOUR: 'it returns false'. Refute it at one input. -/
def fnExactProbeWorkWrong : ChangeSpec := { name := "fnExactProbeWork", fn := fun _ => fun
  | [d] => { results := [.lit (.bool false)], args := [d] }
  | _ => none }
def FnExactProbeWorkWrongFalsely : Prop := fnExactProbeWorkRow.holds Tryz.pinned (OpenSpec.ofChange fnExactProbeWorkWrong)

/-- 'laws.FnExactChooseOrder': WHATEVER THE INPUT: true; the input reads as it did. -/
def fnExactChooseOrderSpec : ChangeSpec := { name := "fnExactChooseOrder", fn := fun _ => fun
  | [d] => { results := [.lit (.bool true)], args := [d] }
  | _ => none }
def fnExactChooseOrderRow : OpenClaim := { program := "yteflgldonmgejaagreat", sum := "4c2a76bf88a505051ab596627c0d5623d9863ef3b8ae3122430685c89e8a7fb2", func := "loop.example/g01986/laws.FnExactChooseOrder", spec := "fnExactChooseOrder", unfollowed := true, recurses := true, apart := false }
def FnExactChooseOrderSaid : Prop := fnExactChooseOrderRow.holds Tryz.pinned (OpenSpec.ofChange fnExactChooseOrderSpec)

/-- ITS FALSE NEIGHBOUR: 'it returns false'. Refute it at one input. -/
def fnExactChooseOrderWrong : ChangeSpec := { name := "fnExactChooseOrder", fn := fun _ => fun
  | [d] => { results := [.lit (.bool false)], args := [d] }
  | _ => none }
def FnExactChooseOrderWrongFalsely : Prop := fnExactChooseOrderRow.holds Tryz.pinned (OpenSpec.ofChange fnExactChooseOrderWrong)

/-- 'laws.FnExactAdaptEngine': WHATEVER THE INPUT: true; the input reads as it did. -/
def fnExactAdaptEngineSpec : ChangeSpec := { name := "fnExactAdaptEngine", fn := fun _ => fun
  | [d] => { results := [.lit (.bool true)], args := [d] }
  | _ => none }
def fnExactAdaptEngineRow : OpenClaim := { program := "yteflgldonmgejaagreat", sum := "4c2a76bf88a505051ab596627c0d5623d9863ef3b8ae3122430685c89e8a7fb2", func := "loop.example/g01986/laws.FnExactAdaptEngine", spec := "fnExactAdaptEngine", unfollowed := true, recurses := true, apart := false }
def FnExactAdaptEngineSaid : Prop := fnExactAdaptEngineRow.holds Tryz.pinned (OpenSpec.ofChange fnExactAdaptEngineSpec)

/-- ITS FALSE NEIGHBOUR: 'it returns false'. Refute it at one input. -/
def fnExactAdaptEngineWrong : ChangeSpec := { name := "fnExactAdaptEngine", fn := fun _ => fun
  | [d] => { results := [.lit (.bool false)], args := [d] }
  | _ => none }
def FnExactAdaptEngineWrongFalsely : Prop := fnExactAdaptEngineRow.holds Tryz.pinned (OpenSpec.ofChange fnExactAdaptEngineWrong)

/-- 'laws.FnExactRunAdaptive': WHATEVER THE INPUT: true; the input reads as it did. -/
def fnExactRunAdaptiveSpec : ChangeSpec := { name := "fnExactRunAdaptive", fn := fun _ => fun
  | [d1, d2] => { results := [.lit (.bool true)], args := [d1, d2] }
  | _ => none }
def fnExactRunAdaptiveRow : OpenClaim := { program := "yteflgldonmgejaagreat", sum := "4c2a76bf88a505051ab596627c0d5623d9863ef3b8ae3122430685c89e8a7fb2", func := "loop.example/g01986/laws.FnExactRunAdaptive", spec := "fnExactRunAdaptive", unfollowed := true, recurses := true, apart := false }
def FnExactRunAdaptiveSaid : Prop := fnExactRunAdaptiveRow.holds Tryz.pinned (OpenSpec.ofChange fnExactRunAdaptiveSpec)

/-- ITS FALSE NEIGHBOUR: 'it returns false'. Refute it at one input. -/
def fnExactRunAdaptiveWrong : ChangeSpec := { name := "fnExactRunAdaptive", fn := fun _ => fun
  | [d1, d2] => { results := [.lit (.bool false)], args := [d1, d2] }
  | _ => none }
def FnExactRunAdaptiveWrongFalsely : Prop := fnExactRunAdaptiveRow.holds Tryz.pinned (OpenSpec.ofChange fnExactRunAdaptiveWrong)

/-- 'laws.FnExactApplyEvent': WHATEVER THE INPUT: true; the input reads as it did. -/
def fnExactApplyEventSpec : ChangeSpec := { name := "fnExactApplyEvent", fn := fun _ => fun
  | [d1, d2] => { results := [.lit (.bool true)], args := [d1, d2] }
  | _ => none }
def fnExactApplyEventRow : OpenClaim := { program := "yteflgldonmgejaagreat", sum := "4c2a76bf88a505051ab596627c0d5623d9863ef3b8ae3122430685c89e8a7fb2", func := "loop.example/g01986/laws.FnExactApplyEvent", spec := "fnExactApplyEvent", apart := false }
def FnExactApplyEventSaid : Prop := fnExactApplyEventRow.holds Tryz.pinned (OpenSpec.ofChange fnExactApplyEventSpec)

/-- ITS FALSE NEIGHBOUR: 'it returns false'. Refute it at one input. -/
def fnExactApplyEventWrong : ChangeSpec := { name := "fnExactApplyEvent", fn := fun _ => fun
  | [d1, d2] => { results := [.lit (.bool false)], args := [d1, d2] }
  | _ => none }
def FnExactApplyEventWrongFalsely : Prop := fnExactApplyEventRow.holds Tryz.pinned (OpenSpec.ofChange fnExactApplyEventWrong)

/-- 'laws.FnExactRunEvents': WHATEVER THE INPUT: true; the input reads as it did. -/
def fnExactRunEventsSpec : ChangeSpec := { name := "fnExactRunEvents", fn := fun _ => fun
  | [d1, d2] => { results := [.lit (.bool true)], args := [d1, d2] }
  | _ => none }
def fnExactRunEventsRow : OpenClaim := { program := "yteflgldonmgejaagreat", sum := "4c2a76bf88a505051ab596627c0d5623d9863ef3b8ae3122430685c89e8a7fb2", func := "loop.example/g01986/laws.FnExactRunEvents", spec := "fnExactRunEvents", apart := false }
def FnExactRunEventsSaid : Prop := fnExactRunEventsRow.holds Tryz.pinned (OpenSpec.ofChange fnExactRunEventsSpec)

/-- ITS FALSE NEIGHBOUR: 'it returns false'. Refute it at one input. -/
def fnExactRunEventsWrong : ChangeSpec := { name := "fnExactRunEvents", fn := fun _ => fun
  | [d1, d2] => { results := [.lit (.bool false)], args := [d1, d2] }
  | _ => none }
def FnExactRunEventsWrongFalsely : Prop := fnExactRunEventsRow.holds Tryz.pinned (OpenSpec.ofChange fnExactRunEventsWrong)

/- THE SECOND FORM. 'bulk': how many values and letters a reading holds, each counted each time it is reached (what is shared counts as often as it is met; a slice's spare places count too). A statement '..UptoSaid' is the law's where the arguments, and the package variables that the reading takes, are together of bulk at most 1048576: NARROWER than '..Said'. Prove '..Said' where nothing that the law and all that it calls make is longer than what came in: it says more and counts as full. Else prove '..UptoSaid'. A law counts once. -/
mutual
def uptoBulk {H : Type} : DataW H → Nat
  | .lit (.string bytes) => bytes.length + 1
  | .lit _ => 1
  | .nil => 1
  | .ptr d => uptoBulk d + 1
  | .slice elems spare => uptoBulkAll elems + uptoBulkAll spare + 1
  | .agg parts => uptoBulkAll parts + 1
  | .iface _ d => uptoBulk d + 1
  | .map entries => uptoBulkEntries entries + 1
  | .held _ => 1
def uptoBulkAll {H : Type} : List (DataW H) → Nat
  | [] => 0
  | d :: r => uptoBulk d + uptoBulkAll r
def uptoBulkEntries {H : Type} : List (Lit × DataW H) → Nat
  | [] => 0
  | x :: r => uptoBulkEntry x + uptoBulkEntries r
def uptoBulkEntry {H : Type} : Lit × DataW H → Nat
  | (.string bytes, d) => bytes.length + uptoBulk d + 1
  | (_, d) => uptoBulk d + 1
 end
def uptoSmall : (H : Type) → List (DataW H) → Bool := fun _ ds => decide (uptoBulkAll ds ≤ 1048576)
def OpenSpec.upto (s : _root_.Go.ChangeSpec) : _root_.Go.OpenSpec := { _root_.Go.OpenSpec.ofChange s with cond := some uptoSmall }

/-- 'laws.FnExactProbeWork', WHERE WHAT IT READS IS OF BULK AT MOST 1048576: true; the input reads as it did. -/
def fnExactProbeWorkUptoRow : OpenClaim := { program := "yteflgldonmgejaagreat", sum := "4c2a76bf88a505051ab596627c0d5623d9863ef3b8ae3122430685c89e8a7fb2", func := "loop.example/g01986/laws.FnExactProbeWork", spec := "fnExactProbeWork", unfollowed := true, recurses := true, apart := false, narrowed := true }
def FnExactProbeWorkUptoSaid : Prop := fnExactProbeWorkUptoRow.holds Tryz.pinned (OpenSpec.upto fnExactProbeWorkSpec)

/-- 'laws.FnExactChooseOrder', WHERE WHAT IT READS IS OF BULK AT MOST 1048576: true; the input reads as it did. -/
def fnExactChooseOrderUptoRow : OpenClaim := { program := "yteflgldonmgejaagreat", sum := "4c2a76bf88a505051ab596627c0d5623d9863ef3b8ae3122430685c89e8a7fb2", func := "loop.example/g01986/laws.FnExactChooseOrder", spec := "fnExactChooseOrder", unfollowed := true, recurses := true, apart := false, narrowed := true }
def FnExactChooseOrderUptoSaid : Prop := fnExactChooseOrderUptoRow.holds Tryz.pinned (OpenSpec.upto fnExactChooseOrderSpec)

/-- 'laws.FnExactAdaptEngine', WHERE WHAT IT READS IS OF BULK AT MOST 1048576: true; the input reads as it did. -/
def fnExactAdaptEngineUptoRow : OpenClaim := { program := "yteflgldonmgejaagreat", sum := "4c2a76bf88a505051ab596627c0d5623d9863ef3b8ae3122430685c89e8a7fb2", func := "loop.example/g01986/laws.FnExactAdaptEngine", spec := "fnExactAdaptEngine", unfollowed := true, recurses := true, apart := false, narrowed := true }
def FnExactAdaptEngineUptoSaid : Prop := fnExactAdaptEngineUptoRow.holds Tryz.pinned (OpenSpec.upto fnExactAdaptEngineSpec)

/-- 'laws.FnExactRunAdaptive', WHERE WHAT IT READS IS OF BULK AT MOST 1048576: true; the input reads as it did. -/
def fnExactRunAdaptiveUptoRow : OpenClaim := { program := "yteflgldonmgejaagreat", sum := "4c2a76bf88a505051ab596627c0d5623d9863ef3b8ae3122430685c89e8a7fb2", func := "loop.example/g01986/laws.FnExactRunAdaptive", spec := "fnExactRunAdaptive", unfollowed := true, recurses := true, apart := false, narrowed := true }
def FnExactRunAdaptiveUptoSaid : Prop := fnExactRunAdaptiveUptoRow.holds Tryz.pinned (OpenSpec.upto fnExactRunAdaptiveSpec)

/-- 'laws.FnExactApplyEvent', WHERE WHAT IT READS IS OF BULK AT MOST 1048576: true; the input reads as it did. -/
def fnExactApplyEventUptoRow : OpenClaim := { program := "yteflgldonmgejaagreat", sum := "4c2a76bf88a505051ab596627c0d5623d9863ef3b8ae3122430685c89e8a7fb2", func := "loop.example/g01986/laws.FnExactApplyEvent", spec := "fnExactApplyEvent", apart := false, narrowed := true }
def FnExactApplyEventUptoSaid : Prop := fnExactApplyEventUptoRow.holds Tryz.pinned (OpenSpec.upto fnExactApplyEventSpec)

/-- 'laws.FnExactRunEvents', WHERE WHAT IT READS IS OF BULK AT MOST 1048576: true; the input reads as it did. -/
def fnExactRunEventsUptoRow : OpenClaim := { program := "yteflgldonmgejaagreat", sum := "4c2a76bf88a505051ab596627c0d5623d9863ef3b8ae3122430685c89e8a7fb2", func := "loop.example/g01986/laws.FnExactRunEvents", spec := "fnExactRunEvents", apart := false, narrowed := true }
def FnExactRunEventsUptoSaid : Prop := fnExactRunEventsUptoRow.holds Tryz.pinned (OpenSpec.upto fnExactRunEventsSpec)

end Rows
end Go.Proofs.YteflgldonmgejaaGreat
