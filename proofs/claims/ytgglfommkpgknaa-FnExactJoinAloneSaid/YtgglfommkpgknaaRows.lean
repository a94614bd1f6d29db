/-
  No cell of these rows narrows 'for every input' (looked for: loops, veiled, ifaces, maps, wideKeys, modest, calm, conditions, laid).
  DERIVED. THE GIVEN ROWS OF THIS SEAT. 12 by the template 'for every input the law returns true; each argument reads behind the call as it read before'; 0 by the template 'total and deterministic' (their statements: YtgglfommkpgknaaTotals.lean).
  GIVEN WITH THE SEED: the statements are not yours to turn. If you find one false, say at which input.
  Laid BY PROGRAM, IN A SANDBOX (cutbox-rows.mjs): the forced cells as the released guide's own fill.sh prints them over the translation 17e8a7cd8f47bf1b… (all of the seat's roots in one cut). By AI agents, Wed Nov 11 2026. No macro, syntax, notation, axiom, sorry.
-/
import Derived.Test.YtgglfommkpgknaaChecked
import GoSem.Claim
import GoSem.ClaimJoined
import GoSem.ClaimMapViews
import Derived.JoinedTies
import Derived.KernelRfl
namespace Go.Proofs.Ytgglfommkpgknaa
/- THE CELL 'sum', in the pinned program and in every row, IS THE sha256 OF THE DUMP (.gsa) THAT YtgglfommkpgknaaProg.lean LOADS. Nothing in Lean hashes anything: it is a label: what it is worth is what the hold of that sum in a sandbox is worth. -/
noncomputable def Try.pinned : Pinned := { name := "ytgglfommkpgknaa", sum := "17e8a7cd8f47bf1b2af3224242e72e9027e40355d7daa3da78fc4c70e8da960e", checked := Try.checked }
namespace Rows
def none {H : Type} : Left H := { results := [], args := [] }

/-- 'laws.FnExactEqualJoined': WHATEVER THE INPUT: true; the input reads as it did. -/
def fnExactEqualJoinedSpec : ChangeSpec := { name := "fnExactEqualJoined", fn := fun _ => fun
  | [d1, d2] => { results := [.lit (.bool true)], args := [d1, d2] }
  | _ => none }
def fnExactEqualJoinedRow : OpenClaim := { program := "ytgglfommkpgknaa", sum := "17e8a7cd8f47bf1b2af3224242e72e9027e40355d7daa3da78fc4c70e8da960e", func := "loop.example/g01986/laws.FnExactEqualJoined", spec := "fnExactEqualJoined", apart := false }
def FnExactEqualJoinedSaid : Prop := fnExactEqualJoinedRow.holds Try.pinned (OpenSpec.ofChange fnExactEqualJoinedSpec)

/-- ITS FALSE NEIGHBOUR: 'it returns false'. Refute it at one input. -/
def fnExactEqualJoinedWrong : ChangeSpec := { name := "fnExactEqualJoined", fn := fun _ => fun
  | [d1, d2] => { results := [.lit (.bool false)], args := [d1, d2] }
  | _ => none }
def FnExactEqualJoinedWrongFalsely : Prop := fnExactEqualJoinedRow.holds Try.pinned (OpenSpec.ofChange fnExactEqualJoinedWrong)

/-- 'laws.FnExactIsOutbox': WHATEVER THE INPUT: true; the input reads as it did. -/
def fnExactIsOutboxSpec : ChangeSpec := { name := "fnExactIsOutbox", fn := fun _ => fun
  | [d] => { results := [.lit (.bool true)], args := [d] }
  | _ => none }
def fnExactIsOutboxRow : OpenClaim := { program := "ytgglfommkpgknaa", sum := "17e8a7cd8f47bf1b2af3224242e72e9027e40355d7daa3da78fc4c70e8da960e", func := "loop.example/g01986/laws.FnExactIsOutbox", spec := "fnExactIsOutbox", apart := false }
def FnExactIsOutboxSaid : Prop := fnExactIsOutboxRow.holds Try.pinned (OpenSpec.ofChange fnExactIsOutboxSpec)

/-- ITS FALSE NEIGHBOUR: 'it returns false'. Refute it at one input. -/
def fnExactIsOutboxWrong : ChangeSpec := { name := "fnExactIsOutbox", fn := fun _ => fun
  | [d] => { results := [.lit (.bool false)], args := [d] }
  | _ => none }
def FnExactIsOutboxWrongFalsely : Prop := fnExactIsOutboxRow.holds Try.pinned (OpenSpec.ofChange fnExactIsOutboxWrong)

/-- 'laws.FnExactRouteJoined': WHATEVER THE INPUT: true; the input reads as it did. -/
def fnExactRouteJoinedSpec : ChangeSpec := { name := "fnExactRouteJoined", fn := fun _ => fun
  | [d1, d2] => { results := [.lit (.bool true)], args := [d1, d2] }
  | _ => none }
def fnExactRouteJoinedRow : OpenClaim := { program := "ytgglfommkpgknaa", sum := "17e8a7cd8f47bf1b2af3224242e72e9027e40355d7daa3da78fc4c70e8da960e", func := "loop.example/g01986/laws.FnExactRouteJoined", spec := "fnExactRouteJoined", apart := false }
def FnExactRouteJoinedSaid : Prop := fnExactRouteJoinedRow.holds Try.pinned (OpenSpec.ofChange fnExactRouteJoinedSpec)

/-- ITS FALSE NEIGHBOUR: 'it returns false'. Refute it at one input. -/
def fnExactRouteJoinedWrong : ChangeSpec := { name := "fnExactRouteJoined", fn := fun _ => fun
  | [d1, d2] => { results := [.lit (.bool false)], args := [d1, d2] }
  | _ => none }
def FnExactRouteJoinedWrongFalsely : Prop := fnExactRouteJoinedRow.holds Try.pinned (OpenSpec.ofChange fnExactRouteJoinedWrong)

/-- 'laws.FnExactEqualRouted': WHATEVER THE INPUT: true; the input reads as it did. -/
def fnExactEqualRoutedSpec : ChangeSpec := { name := "fnExactEqualRouted", fn := fun _ => fun
  | [d1, d2] => { results := [.lit (.bool true)], args := [d1, d2] }
  | _ => none }
def fnExactEqualRoutedRow : OpenClaim := { program := "ytgglfommkpgknaa", sum := "17e8a7cd8f47bf1b2af3224242e72e9027e40355d7daa3da78fc4c70e8da960e", func := "loop.example/g01986/laws.FnExactEqualRouted", spec := "fnExactEqualRouted", unfollowed := true, recurses := true, apart := false }
def FnExactEqualRoutedSaid : Prop := fnExactEqualRoutedRow.holds Try.pinned (OpenSpec.ofChange fnExactEqualRoutedSpec)

/-- ITS FALSE NEIGHBOUR: 'it returns false'. Refute it at one input. -/
def fnExactEqualRoutedWrong : ChangeSpec := { name := "fnExactEqualRouted", fn := fun _ => fun
  | [d1, d2] => { results := [.lit (.bool false)], args := [d1, d2] }
  | _ => none }
def FnExactEqualRoutedWrongFalsely : Prop := fnExactEqualRoutedRow.holds Try.pinned (OpenSpec.ofChange fnExactEqualRoutedWrong)

/-- 'laws.FnExactNewOutbox': WHATEVER THE INPUT: true; the input reads as it did. -/
def fnExactNewOutboxSpec : ChangeSpec := { name := "fnExactNewOutbox", fn := fun _ => fun
  | [d] => { results := [.lit (.bool true)], args := [d] }
  | _ => none }
def fnExactNewOutboxRow : OpenClaim := { program := "ytgglfommkpgknaa", sum := "17e8a7cd8f47bf1b2af3224242e72e9027e40355d7daa3da78fc4c70e8da960e", func := "loop.example/g01986/laws.FnExactNewOutbox", spec := "fnExactNewOutbox", apart := false }
def FnExactNewOutboxSaid : Prop := fnExactNewOutboxRow.holds Try.pinned (OpenSpec.ofChange fnExactNewOutboxSpec)

/-- ITS FALSE NEIGHBOUR: 'it returns false'. Refute it at one input. -/
def fnExactNewOutboxWrong : ChangeSpec := { name := "fnExactNewOutbox", fn := fun _ => fun
  | [d] => { results := [.lit (.bool false)], args := [d] }
  | _ => none }
def FnExactNewOutboxWrongFalsely : Prop := fnExactNewOutboxRow.holds Try.pinned (OpenSpec.ofChange fnExactNewOutboxWrong)

/-- 'laws.FnExactReceive': WHATEVER THE INPUT: true; the input reads as it did. -/
def fnExactReceiveSpec : ChangeSpec := { name := "fnExactReceive", fn := fun _ => fun
  | [d1, d2, d3] => { results := [.lit (.bool true)], args := [d1, d2, d3] }
  | _ => none }
def fnExactReceiveRow : OpenClaim := { program := "ytgglfommkpgknaa", sum := "17e8a7cd8f47bf1b2af3224242e72e9027e40355d7daa3da78fc4c70e8da960e", func := "loop.example/g01986/laws.FnExactReceive", spec := "fnExactReceive", apart := false }
def FnExactReceiveSaid : Prop := fnExactReceiveRow.holds Try.pinned (OpenSpec.ofChange fnExactReceiveSpec)

/-- ITS FALSE NEIGHBOUR: 'it returns false'. Refute it at one input. -/
def fnExactReceiveWrong : ChangeSpec := { name := "fnExactReceive", fn := fun _ => fun
  | [d1, d2, d3] => { results := [.lit (.bool false)], args := [d1, d2, d3] }
  | _ => none }
def FnExactReceiveWrongFalsely : Prop := fnExactReceiveRow.holds Try.pinned (OpenSpec.ofChange fnExactReceiveWrong)

/-- 'laws.FnExactResumeFrom': WHATEVER THE INPUT: true; the input reads as it did. -/
def fnExactResumeFromSpec : ChangeSpec := { name := "fnExactResumeFrom", fn := fun _ => fun
  | [d1, d2] => { results := [.lit (.bool true)], args := [d1, d2] }
  | _ => none }
def fnExactResumeFromRow : OpenClaim := { program := "ytgglfommkpgknaa", sum := "17e8a7cd8f47bf1b2af3224242e72e9027e40355d7daa3da78fc4c70e8da960e", func := "loop.example/g01986/laws.FnExactResumeFrom", spec := "fnExactResumeFrom", apart := false }
def FnExactResumeFromSaid : Prop := fnExactResumeFromRow.holds Try.pinned (OpenSpec.ofChange fnExactResumeFromSpec)

/-- ITS FALSE NEIGHBOUR: 'it returns false'. Refute it at one input. -/
def fnExactResumeFromWrong : ChangeSpec := { name := "fnExactResumeFrom", fn := fun _ => fun
  | [d1, d2] => { results := [.lit (.bool false)], args := [d1, d2] }
  | _ => none }
def FnExactResumeFromWrongFalsely : Prop := fnExactResumeFromRow.holds Try.pinned (OpenSpec.ofChange fnExactResumeFromWrong)

/-- 'laws.FnReceptions': WHATEVER THE INPUT: true; the input reads as it did. -/
def fnReceptionsSpec : ChangeSpec := { name := "fnReceptions", fn := fun _ => fun
  | [d] => { results := [.lit (.bool true)], args := [d] }
  | _ => none }
def fnReceptionsRow : OpenClaim := { program := "ytgglfommkpgknaa", sum := "17e8a7cd8f47bf1b2af3224242e72e9027e40355d7daa3da78fc4c70e8da960e", func := "loop.example/g01986/laws.FnReceptions", spec := "fnReceptions", apart := false }
def FnReceptionsSaid : Prop := fnReceptionsRow.holds Try.pinned (OpenSpec.ofChange fnReceptionsSpec)

/-- ITS FALSE NEIGHBOUR: 'it returns false'. Refute it at one input. -/
def fnReceptionsWrong : ChangeSpec := { name := "fnReceptions", fn := fun _ => fun
  | [d] => { results := [.lit (.bool false)], args := [d] }
  | _ => none }
def FnReceptionsWrongFalsely : Prop := fnReceptionsRow.holds Try.pinned (OpenSpec.ofChange fnReceptionsWrong)

/-- 'laws.FnDeliveries': WHATEVER THE INPUT: true; the input reads as it did. -/
def fnDeliveriesSpec : ChangeSpec := { name := "fnDeliveries", fn := fun _ => fun
  | [d] => { results := [.lit (.bool true)], args := [d] }
  | _ => none }
def fnDeliveriesRow : OpenClaim := { program := "ytgglfommkpgknaa", sum := "17e8a7cd8f47bf1b2af3224242e72e9027e40355d7daa3da78fc4c70e8da960e", func := "loop.example/g01986/laws.FnDeliveries", spec := "fnDeliveries", apart := false }
def FnDeliveriesSaid : Prop := fnDeliveriesRow.holds Try.pinned (OpenSpec.ofChange fnDeliveriesSpec)

/-- ITS FALSE NEIGHBOUR: 'it returns false'. Refute it at one input. -/
def fnDeliveriesWrong : ChangeSpec := { name := "fnDeliveries", fn := fun _ => fun
  | [d] => { results := [.lit (.bool false)], args := [d] }
  | _ => none }
def FnDeliveriesWrongFalsely : Prop := fnDeliveriesRow.holds Try.pinned (OpenSpec.ofChange fnDeliveriesWrong)

/-- 'laws.FnExactJoinAlone': WHATEVER THE INPUT: true; the input reads as it did. -/
def fnExactJoinAloneSpec : ChangeSpec := { name := "fnExactJoinAlone", fn := fun _ => fun
  | [d1, d2, d3, d4] => { results := [.lit (.bool true)], args := [d1, d2, d3, d4] }
  | _ => none }
def fnExactJoinAloneRow : OpenClaim := { program := "ytgglfommkpgknaa", sum := "17e8a7cd8f47bf1b2af3224242e72e9027e40355d7daa3da78fc4c70e8da960e", func := "loop.example/g01986/laws.FnExactJoinAlone", spec := "fnExactJoinAlone", unfollowed := true, recurses := true, apart := false }
def FnExactJoinAloneSaid : Prop := fnExactJoinAloneRow.holds Try.pinned (OpenSpec.ofChange fnExactJoinAloneSpec)

/-- ITS FALSE NEIGHBOUR: 'it returns false'. Refute it at one input. -/
def fnExactJoinAloneWrong : ChangeSpec := { name := "fnExactJoinAlone", fn := fun _ => fun
  | [d1, d2, d3, d4] => { results := [.lit (.bool false)], args := [d1, d2, d3, d4] }
  | _ => none }
def FnExactJoinAloneWrongFalsely : Prop := fnExactJoinAloneRow.holds Try.pinned (OpenSpec.ofChange fnExactJoinAloneWrong)

/-- 'laws.FnExactJoinShared': WHATEVER THE INPUT: true; the input reads as it did. -/
def fnExactJoinSharedSpec : ChangeSpec := { name := "fnExactJoinShared", fn := fun _ => fun
  | [d1, d2, d3, d4] => { results := [.lit (.bool true)], args := [d1, d2, d3, d4] }
  | _ => none }
def fnExactJoinSharedRow : OpenClaim := { program := "ytgglfommkpgknaa", sum := "17e8a7cd8f47bf1b2af3224242e72e9027e40355d7daa3da78fc4c70e8da960e", func := "loop.example/g01986/laws.FnExactJoinShared", spec := "fnExactJoinShared", unfollowed := true, recurses := true, apart := false }
def FnExactJoinSharedSaid : Prop := fnExactJoinSharedRow.holds Try.pinned (OpenSpec.ofChange fnExactJoinSharedSpec)

/-- ITS FALSE NEIGHBOUR: 'it returns false'. Refute it at one input. -/
def fnExactJoinSharedWrong : ChangeSpec := { name := "fnExactJoinShared", fn := fun _ => fun
  | [d1, d2, d3, d4] => { results := [.lit (.bool false)], args := [d1, d2, d3, d4] }
  | _ => none }
def FnExactJoinSharedWrongFalsely : Prop := fnExactJoinSharedRow.holds Try.pinned (OpenSpec.ofChange fnExactJoinSharedWrong)

/-- 'laws.FnExactSendNext': WHATEVER THE INPUT: true; the input reads as it did. -/
def fnExactSendNextSpec : ChangeSpec := { name := "fnExactSendNext", fn := fun _ => fun
  | [d1, d2, d3] => { results := [.lit (.bool true)], args := [d1, d2, d3] }
  | _ => none }
def fnExactSendNextRow : OpenClaim := { program := "ytgglfommkpgknaa", sum := "17e8a7cd8f47bf1b2af3224242e72e9027e40355d7daa3da78fc4c70e8da960e", func := "loop.example/g01986/laws.FnExactSendNext", spec := "fnExactSendNext", apart := false }
def FnExactSendNextSaid : Prop := fnExactSendNextRow.holds Try.pinned (OpenSpec.ofChange fnExactSendNextSpec)

/-- ITS FALSE NEIGHBOUR: 'it returns false'. Refute it at one input. -/
def fnExactSendNextWrong : ChangeSpec := { name := "fnExactSendNext", fn := fun _ => fun
  | [d1, d2, d3] => { results := [.lit (.bool false)], args := [d1, d2, d3] }
  | _ => none }
def FnExactSendNextWrongFalsely : Prop := fnExactSendNextRow.holds Try.pinned (OpenSpec.ofChange fnExactSendNextWrong)

/- THE SECOND FORM. 'bulk': how many values and letters a reading holds, each counted each time it is reached (what is shared counts as often as it is met; a slice's spare places count too). A statement '..UptoSaid' is the law's where the arguments, and the package variables that the reading takes, are together of bulk at most 1048576: NARROWER than '..Said'. Prove '..Said' where nothing that the law and all that it calls make is longer than what came in: it says more and counts as full. Else prove '..UptoSaid'. A law counts once. -/
mutual
def uptoBulk {H : Type} : DataW H → Nat
  | .lit (.string bytes) => bytes.length + 1
  | .lit _ => 1
  | .nil => 1
  | .ptr d => uptoBulk d + 1
  | .slice elems spare => uptoBulkAll elems + uptoBulkAll spare + 1
  | .agg parts => uptoBulkAll parts + 1
  | .iface _ d => uptoBulk d + 1
  | .map entries => uptoBulkEntries entries + 1
  | .held _ => 1
def uptoBulkAll {H : Type} : List (DataW H) → Nat
  | [] => 0
  | d :: r => uptoBulk d + uptoBulkAll r
def uptoBulkEntries {H : Type} : List (Lit × DataW H) → Nat
  | [] => 0
  | x :: r => uptoBulkEntry x + uptoBulkEntries r
def uptoBulkEntry {H : Type} : Lit × DataW H → Nat
  | (.string bytes, d) => bytes.length + uptoBulk d + 1
  | (_, d) => uptoBulk d + 1
 end
def uptoSmall : (H : Type) → List (DataW H) → Bool := fun _ ds => decide (uptoBulkAll ds ≤ 1048576)
def OpenSpec.upto (s : _root_.Go.ChangeSpec) : _root_.Go.OpenSpec := { _root_.Go.OpenSpec.ofChange s with cond := some uptoSmall }

/-- 'laws.FnExactEqualJoined', WHERE WHAT IT READS IS OF BULK AT MOST 1048576: true; the input reads as it did. -/
def fnExactEqualJoinedUptoRow : OpenClaim := { program := "ytgglfommkpgknaa", sum := "17e8a7cd8f47bf1b2af3224242e72e9027e40355d7daa3da78fc4c70e8da960e", func := "loop.example/g01986/laws.FnExactEqualJoined", spec := "fnExactEqualJoined", apart := false, narrowed := true }
def FnExactEqualJoinedUptoSaid : Prop := fnExactEqualJoinedUptoRow.holds Try.pinned (OpenSpec.upto fnExactEqualJoinedSpec)

/-- 'laws.FnExactIsOutbox', WHERE WHAT IT READS IS OF BULK AT MOST 1048576: true; the input reads as it did. -/
def fnExactIsOutboxUptoRow : OpenClaim := { program := "ytgglfommkpgknaa", sum := "17e8a7cd8f47bf1b2af3224242e72e9027e40355d7daa3da78fc4c70e8da960e", func := "loop.example/g01986/laws.FnExactIsOutbox", spec := "fnExactIsOutbox", apart := false, narrowed := true }
def FnExactIsOutboxUptoSaid : Prop := fnExactIsOutboxUptoRow.holds Try.pinned (OpenSpec.upto fnExactIsOutboxSpec)

/-- 'laws.FnExactRouteJoined', WHERE WHAT IT READS IS OF BULK AT MOST 1048576: true; the input reads as it did. -/
def fnExactRouteJoinedUptoRow : OpenClaim := { program := "ytgglfommkpgknaa", sum := "17e8a7cd8f47bf1b2af3224242e72e9027e40355d7daa3da78fc4c70e8da960e", func := "loop.example/g01986/laws.FnExactRouteJoined", spec := "fnExactRouteJoined", apart := false, narrowed := true }
def FnExactRouteJoinedUptoSaid : Prop := fnExactRouteJoinedUptoRow.holds Try.pinned (OpenSpec.upto fnExactRouteJoinedSpec)

/-- 'laws.FnExactEqualRouted', WHERE WHAT IT READS IS OF BULK AT MOST 1048576: true; the input reads as it did. -/
def fnExactEqualRoutedUptoRow : OpenClaim := { program := "ytgglfommkpgknaa", sum := "17e8a7cd8f47bf1b2af3224242e72e9027e40355d7daa3da78fc4c70e8da960e", func := "loop.example/g01986/laws.FnExactEqualRouted", spec := "fnExactEqualRouted", unfollowed := true, recurses := true, apart := false, narrowed := true }
def FnExactEqualRoutedUptoSaid : Prop := fnExactEqualRoutedUptoRow.holds Try.pinned (OpenSpec.upto fnExactEqualRoutedSpec)

/-- 'laws.FnExactNewOutbox', WHERE WHAT IT READS IS OF BULK AT MOST 1048576: true; the input reads as it did. -/
def fnExactNewOutboxUptoRow : OpenClaim := { program := "ytgglfommkpgknaa", sum := "17e8a7cd8f47bf1b2af3224242e72e9027e40355d7daa3da78fc4c70e8da960e", func := "loop.example/g01986/laws.FnExactNewOutbox", spec := "fnExactNewOutbox", apart := false, narrowed := true }
def FnExactNewOutboxUptoSaid : Prop := fnExactNewOutboxUptoRow.holds Try.pinned (OpenSpec.upto fnExactNewOutboxSpec)

/-- 'laws.FnExactReceive', WHERE WHAT IT READS IS OF BULK AT MOST 1048576: true; the input reads as it did. -/
def fnExactReceiveUptoRow : OpenClaim := { program := "ytgglfommkpgknaa", sum := "17e8a7cd8f47bf1b2af3224242e72e9027e40355d7daa3da78fc4c70e8da960e", func := "loop.example/g01986/laws.FnExactReceive", spec := "fnExactReceive", apart := false, narrowed := true }
def FnExactReceiveUptoSaid : Prop := fnExactReceiveUptoRow.holds Try.pinned (OpenSpec.upto fnExactReceiveSpec)

/-- 'laws.FnExactResumeFrom', WHERE WHAT IT READS IS OF BULK AT MOST 1048576: true; the input reads as it did. -/
def fnExactResumeFromUptoRow : OpenClaim := { program := "ytgglfommkpgknaa", sum := "17e8a7cd8f47bf1b2af3224242e72e9027e40355d7daa3da78fc4c70e8da960e", func := "loop.example/g01986/laws.FnExactResumeFrom", spec := "fnExactResumeFrom", apart := false, narrowed := true }
def FnExactResumeFromUptoSaid : Prop := fnExactResumeFromUptoRow.holds Try.pinned (OpenSpec.upto fnExactResumeFromSpec)

/-- 'laws.FnReceptions', WHERE WHAT IT READS IS OF BULK AT MOST 1048576: true; the input reads as it did. -/
def fnReceptionsUptoRow : OpenClaim := { program := "ytgglfommkpgknaa", sum := "17e8a7cd8f47bf1b2af3224242e72e9027e40355d7daa3da78fc4c70e8da960e", func := "loop.example/g01986/laws.FnReceptions", spec := "fnReceptions", apart := false, narrowed := true }
def FnReceptionsUptoSaid : Prop := fnReceptionsUptoRow.holds Try.pinned (OpenSpec.upto fnReceptionsSpec)

/-- 'laws.FnDeliveries', WHERE WHAT IT READS IS OF BULK AT MOST 1048576: true; the input reads as it did. -/
def fnDeliveriesUptoRow : OpenClaim := { program := "ytgglfommkpgknaa", sum := "17e8a7cd8f47bf1b2af3224242e72e9027e40355d7daa3da78fc4c70e8da960e", func := "loop.example/g01986/laws.FnDeliveries", spec := "fnDeliveries", apart := false, narrowed := true }
def FnDeliveriesUptoSaid : Prop := fnDeliveriesUptoRow.holds Try.pinned (OpenSpec.upto fnDeliveriesSpec)

/-- 'laws.FnExactJoinAlone', WHERE WHAT IT READS IS OF BULK AT MOST 1048576: true; the input reads as it did. -/
def fnExactJoinAloneUptoRow : OpenClaim := { program := "ytgglfommkpgknaa", sum := "17e8a7cd8f47bf1b2af3224242e72e9027e40355d7daa3da78fc4c70e8da960e", func := "loop.example/g01986/laws.FnExactJoinAlone", spec := "fnExactJoinAlone", unfollowed := true, recurses := true, apart := false, narrowed := true }
def FnExactJoinAloneUptoSaid : Prop := fnExactJoinAloneUptoRow.holds Try.pinned (OpenSpec.upto fnExactJoinAloneSpec)

/-- 'laws.FnExactJoinShared', WHERE WHAT IT READS IS OF BULK AT MOST 1048576: true; the input reads as it did. -/
def fnExactJoinSharedUptoRow : OpenClaim := { program := "ytgglfommkpgknaa", sum := "17e8a7cd8f47bf1b2af3224242e72e9027e40355d7daa3da78fc4c70e8da960e", func := "loop.example/g01986/laws.FnExactJoinShared", spec := "fnExactJoinShared", unfollowed := true, recurses := true, apart := false, narrowed := true }
def FnExactJoinSharedUptoSaid : Prop := fnExactJoinSharedUptoRow.holds Try.pinned (OpenSpec.upto fnExactJoinSharedSpec)

/-- 'laws.FnExactSendNext', WHERE WHAT IT READS IS OF BULK AT MOST 1048576: true; the input reads as it did. -/
def fnExactSendNextUptoRow : OpenClaim := { program := "ytgglfommkpgknaa", sum := "17e8a7cd8f47bf1b2af3224242e72e9027e40355d7daa3da78fc4c70e8da960e", func := "loop.example/g01986/laws.FnExactSendNext", spec := "fnExactSendNext", apart := false, narrowed := true }
def FnExactSendNextUptoSaid : Prop := fnExactSendNextUptoRow.holds Try.pinned (OpenSpec.upto fnExactSendNextSpec)

end Rows
end Go.Proofs.Ytgglfommkpgknaa
